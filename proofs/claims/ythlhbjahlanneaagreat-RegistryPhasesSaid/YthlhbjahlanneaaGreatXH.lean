/- A region of a drawn order comes, in whatever order, to what the order of its text comes to. Nothing here is about one program. -/
import Derived.Test.YthlhbjahlanneaaGreatXG
namespace Go.X
open Go.RowKit Go.V

section
variable {T : Tab}
def mkH (N : Nat) (f : Nat → Ent T.U) : List (Ent T.U) := (List.range N).map f
theorem mkH_len {N : Nat} {f : Nat → Ent T.U} : (mkH N f).length = N := by simp [mkH]
theorem mkH_get {N : Nat} {f : Nat → Ent T.U} {e : Nat} {x : Ent T.U} : (mkH N f)[e]? = some x ↔ e < N ∧ f e = x := by
  unfold mkH
  rw [List.getElem?_map]
  by_cases h : e < N
  · rw [List.getElem?_range h]; simp [h]
  · rw [List.getElem?_eq_none (by simpa using h)]; simp [h]
def mkF (f : Nat → Option (AV T.U)) : Nat → AF T
  | 0 => []
  | n + 1 => match f n with | some a => (n, a) :: mkF f n | none => mkF f n
theorem mkF_get {f : Nat → Option (AV T.U)} {t : Nat} {a : AV T.U} : ∀ {n : Nat}, (mkF f n).get T t = some a ↔ t < n ∧ f t = some a
  | 0 => by simp [mkF, AF.get]
  | n + 1 => by
    unfold mkF
    by_cases htn : t = n
    · subst htn
      split
      · rename_i b hb
        simp only [AF.get, Nat.beq_refl]
        constructor
        · intro h; exact ⟨by omega, by rw [hb]; exact h⟩
        · intro h; rw [hb] at h; exact h.2
      · rename_i hb
        rw [mkF_get]
        constructor
        · intro h; omega
        · intro h; rw [hb] at h; cases h.2
    · have hne : Nat.beq n t = false := by cases hb : Nat.beq n t; rfl; exact absurd (Nat.eq_of_beq_eq_true hb).symm htn
      split
      · simp only [AF.get, hne]
        rw [mkF_get]; constructor <;> intro h <;> exact ⟨by omega, h.2⟩
      · rw [mkF_get]; constructor <;> intro h <;> exact ⟨by omega, h.2⟩
def fullF (a : Act) : Nat → PF
  | 0 => []
  | n + 1 => (n, a.tmps.getD n undef) :: fullF a n
theorem fullF_get {a : Act} {t : Nat} {v : Value} : ∀ {n : Nat}, (fullF a n).get t = some v ↔ t < n ∧ a.tmps.getD t undef = v
  | 0 => by simp [fullF, PF.get]
  | n + 1 => by
    simp only [fullF, PF.get]
    by_cases htn : t = n
    · subst htn; simp [Nat.beq_refl]
    · have hne : Nat.beq n t = false := by cases hb : Nat.beq n t; rfl; exact absurd (Nat.eq_of_beq_eq_true hb).symm htn
      rw [hne]
      simp only
      rw [fullF_get]; constructor <;> intro h <;> exact ⟨by omega, h.2⟩
theorem fullF_fr {a : Act} {n : Nat} {ds : List Deferred} (h1 : a.tmps.size = n) (h2 : a.defers = ds) : Fr n ds (fullF a n) a := ⟨h1, h2, fun i v hv => by
  obtain ⟨h3, h4⟩ := fullF_get.1 hv
  exact ⟨h4, h3⟩⟩
end
section
variable {T : Tab} {P : Program} {C : Ctx T} {ops : Array Oper} {n B : Nat} {F0 : AF T} {H0 : List (Ent T.U)} {rs : List (Rec T)}
theorem TrOk.idx (h : TrOk P C ops n B F0 H0 rs) {j : Nat} {r : Rec T} (hr : rs[j]? = some r) : r.d.j = j := by
  rw [(h j r hr).idx, List.length_take, Nat.min_eq_left (Nat.le_of_lt (List.getElem?_eq_some_iff.1 hr).1)]
theorem take_mem {i j : Nat} {r : Rec T} (hij : i < j) (hr : rs[i]? = some r) : r ∈ rs.take j := List.mem_of_getElem? (i := i) (by rw [List.getElem?_take, if_pos hij]; exact hr)
theorem TrOk.ord (h : TrOk P C ops n B F0 H0 rs) {i j : Nat} {r q : Rec T} (hij : i < j) (hr : rs[i]? = some r) (hq : rs[j]? = some q) : r.d.ne ≤ q.d.nb := (h j q hq).mono r (take_mem hij hr)
theorem upR_cases {r : Rec T} {e : Nat} (h : upR r e ≠ none) : r.skip = false ∧ ((e < r.d.nb ∧ e ∈ r.d.tch ∧ e ∈ r.d.wr) ∨ (r.d.nb ≤ e ∧ e < r.H1.length)) := by
  unfold upR at h
  split at h
  · exact absurd rfl h
  · rename_i hs
    refine ⟨hs, ?_⟩
    split at h
    · rename_i hlt
      split at h
      · rename_i h2; exact .inl ⟨hlt, h2.1, h2.2⟩
      · exact absurd rfl h
    · rename_i hlt
      refine .inr ⟨by omega, ?_⟩
      apply Classical.byContradiction; intro hn
      exact h (List.getElem?_eq_none (by omega))
/-- an entry that r touches, or makes, no later operation turns ahead of it. -/
theorem TrOk.later (h : TrOk P C ops n B F0 H0 rs) {D : Nat → Bool} (hcl : ∀ i k, D i = true → Tp ops i k → D k = true) {j : Nat} {r : Rec T} (hr : rs[j]? = some r) (hD : D j = false) {e : Nat} (he : e ∈ r.d.tch ∧ e < r.d.nb ∨ r.d.nb ≤ e ∧ e < r.d.ne) {i : Nat} {q : Rec T} (hq : rs[i]? = some q) (hji : j < i) (hu : upR q e ≠ none) : D i = false := by
  cases hDi : D i with
  | false => rfl
  | true =>
    exfalso
    obtain ⟨hs, hc⟩ := upR_cases hu
    have hqk := (h i q hq)
    have htk := hqk.take hs
    have hord := h.ord hji hr hq
    have hle := (h j r hr).le.2
    have hnot : ¬ Tp ops q.d.j r.d.j := fun t => by
      rw [h.idx hq, h.idx hr] at t
      have := hcl i j hDi t
      rw [hD] at this; cases this
    have hchk := htk.chk r (take_mem hji hr)
    rcases hchk with hchk | ⟨h1, h2⟩
    · exact hnot hchk
    · rcases hc with ⟨g1, g2, g3⟩ | ⟨g1, g2⟩
      · rcases he with ⟨k1, k2⟩ | ⟨k1, k2⟩
        · exact h2 e g3 k1
        · have := h1 e g2
          unfold DR.wrE at this
          simp only [Bool.or_eq_false_iff, Bool.and_eq_false_imp] at this
          have := this.2 (Nat.ble_eq_true_of_le k1)
          rw [show Nat.blt e r.d.ne = true by rw [Nat.blt_eq]; exact k2] at this; cases this
      · rcases he with ⟨k1, k2⟩ | ⟨k1, k2⟩ <;> omega
theorem split_at {j : Nat} {r : Rec T} (hr : rs[j]? = some r) : rs = rs.take j ++ r :: rs.drop (j + 1) := by
  obtain ⟨hlt, hg⟩ := List.getElem?_eq_some_iff.1 hr
  rw [← hg, ← List.drop_eq_getElem_cons hlt, List.take_append_drop]
theorem drop_mem {j : Nat} {q : Rec T} (h : q ∈ rs.drop (j + 1)) : ∃ i, j < i ∧ rs[i]? = some q := by
  obtain ⟨k, hk⟩ := List.mem_iff_getElem?.1 h
  rw [List.getElem?_drop] at hk
  exact ⟨j + 1 + k, by omega, hk⟩
theorem take_mem' {j : Nat} {q : Rec T} (h : q ∈ rs.take j) : ∃ i, i < j ∧ rs[i]? = some q := by
  obtain ⟨k, hk⟩ := List.mem_iff_getElem?.1 h
  rw [List.getElem?_take] at hk
  split at hk
  · rename_i hlt; exact ⟨k, hlt, hk⟩
  · cases hk
theorem TrOk.touch (h : TrOk P C ops n B F0 H0 rs) {D : Nat → Bool} (hcl : ∀ i k, D i = true → Tp ops i k → D k = true) {j : Nat} {r : Rec T} (hr : rs[j]? = some r) (hs : r.skip = false) (hD : D j = false) (hpre : ∀ k, Tp ops j k → D k = true) {e : Nat} (he : e ∈ r.d.tch) :
    hF D rs (base H0) e = hF allD (rs.take j) (base H0) e := by
  have hrk := h j r hr
  have htk := hrk.take hs
  have henb := (htk.live e he).1
  conv => lhs; rw [split_at hr]
  rw [hF_app]
  show hF D (rs.drop (j + 1)) (match D r.d.j with | true => _ | false => hF D (rs.take j) (base H0)) e = _
  rw [h.idx hr, hD]
  simp only
  rw [hF_none fun q hq hDq => ?_]
  · refine hF_congr rfl fun q hq hu => ?_
    obtain ⟨i, hi, hqi⟩ := take_mem' hq
    show D q.d.j = true
    rw [h.idx hqi]
    rcases htk.chk q hq with hc | ⟨h1, _⟩
    · rw [h.idx hr, h.idx hqi] at hc
      exact hpre i hc
    · exfalso
      have hw := h1 e he
      unfold DR.wrE at hw
      simp only [Bool.or_eq_false_iff, Bool.and_eq_false_imp] at hw
      obtain ⟨hqs, hc⟩ := upR_cases hu
      rcases hc with ⟨_, _, g3⟩ | ⟨g1, g2⟩
      · rw [memN_iff.2 g3] at hw; cases hw.1
      · have := hw.2 (Nat.ble_eq_true_of_le g1)
        rw [((h i q hqi).take hqs).ne] at g2
        rw [show Nat.blt e q.d.ne = true by rw [Nat.blt_eq]; exact g2] at this; cases this
  · apply Classical.byContradiction; intro hu
    obtain ⟨i, hi, hqi⟩ := drop_mem hq
    have := h.later hcl hr hD (.inl ⟨he, henb⟩) hqi hi hu
    rw [h.idx hqi, this] at hDq; cases hDq
def withD (D : Nat → Bool) (j : Nat) : Nat → Bool := fun i => if i = j then true else D i
theorem TrOk.put (h : TrOk P C ops n B F0 H0 rs) {D : Nat → Bool} (hcl : ∀ i k, D i = true → Tp ops i k → D k = true) {j : Nat} {r : Rec T} (hr : rs[j]? = some r) (hD : D j = false) (e : Nat) :
    hF (withD D j) rs (base H0) e = (upR r e).getD (hF D rs (base H0) e) := by
  have hne : ∀ (i : Nat) (q : Rec T), rs[i]? = some q → i ≠ j → withD D j q.d.j = D q.d.j := fun i q hq hi => by
    unfold withD; rw [h.idx hq, if_neg hi]
  have hj : withD D j r.d.j = true := by unfold withD; rw [h.idx hr, if_pos rfl]
  have e1 : hF (withD D j) (rs.take j) (base H0) e = hF D (rs.take j) (base H0) e := hF_congr rfl fun q hq _ => by
    obtain ⟨i, hi, hqi⟩ := take_mem' hq
    exact hne i q hqi (by omega)
  have lhs : hF (withD D j) rs (base H0) e = hF (withD D j) (rs.drop (j + 1)) (fun e => (upR r e).getD (hF (withD D j) (rs.take j) (base H0) e)) e := by
    conv => lhs; rw [split_at hr]
    rw [hF_app]
    show hF (withD D j) (rs.drop (j + 1)) (match withD D j r.d.j with | true => _ | false => _) e = _
    rw [hj]
  have rhs : hF D rs (base H0) e = hF D (rs.drop (j + 1)) (hF D (rs.take j) (base H0)) e := by
    conv => lhs; rw [split_at hr]
    rw [hF_app]
    show hF D (rs.drop (j + 1)) (match D r.d.j with | true => _ | false => _) e = _
    rw [h.idx hr, hD]
  have hdr : ∀ q ∈ rs.drop (j + 1), withD D j q.d.j = D q.d.j := fun q hq => by
    obtain ⟨i, hi, hqi⟩ := drop_mem hq
    exact hne i q hqi (by omega)
  rw [lhs, rhs]
  by_cases hu : upR r e = none
  · rw [hu, Option.getD_none]
    exact hF_congr (by simp only [hu, Option.getD_none]; exact e1) fun q hq _ => hdr q hq
  · obtain ⟨hs, hc⟩ := upR_cases hu
    rw [hF_none fun q hq hDq => ?_]
    · cases hx : upR r e with
      | none => exact absurd hx hu
      | some x => simp only [hx, Option.getD_some]
    · apply Classical.byContradiction; intro hq2
      obtain ⟨i, hi, hqi⟩ := drop_mem hq
      have hh : e ∈ r.d.tch ∧ e < r.d.nb ∨ r.d.nb ≤ e ∧ e < r.d.ne := by
        rcases hc with ⟨g1, g2, _⟩ | ⟨g1, g2⟩
        · exact .inl ⟨g2, g1⟩
        · exact .inr ⟨g1, by rw [← ((h j r hr).take hs).ne]; exact g2⟩
      have := h.later hcl hr hD hh hqi hi hq2
      rw [hdr q hq, h.idx hqi, this] at hDq; cases hDq
theorem TrOk.free (h : TrOk P C ops n B F0 H0 rs) (hB : H0.length = B) {D : Nat → Bool} (hcl : ∀ i k, D i = true → Tp ops i k → D k = true) {j : Nat} {r : Rec T} (hr : rs[j]? = some r) (hD : D j = false) {e : Nat} (h1 : r.d.nb ≤ e) (h2 : e < r.d.ne) : hF D rs (base H0) e = .gone := by
  have hle := (h j r hr).le
  rw [hF_none fun q hq hDq => ?_]
  · unfold base; rw [List.getElem?_eq_none (by omega)]; rfl
  · apply Classical.byContradiction; intro hu
    obtain ⟨i, hqi⟩ := List.mem_iff_getElem?.1 hq
    rw [h.idx hqi] at hDq
    rcases Nat.lt_trichotomy i j with hij | rfl | hij
    · have ho := h.ord hij hqi hr
      obtain ⟨hs, hc⟩ := upR_cases hu
      have := (h i q hqi).le.2
      rcases hc with ⟨g1, _⟩ | ⟨_, g2⟩
      · omega
      · rw [((h i q hqi).take hs).ne] at g2; omega
    · rw [hD] at hDq; cases hDq
    · have := h.later hcl hr hD (.inr ⟨h1, h2⟩) hqi hij hu
      rw [this] at hDq; cases hDq
/-- what those operations name that are done. -/
theorem TrOk.okId (h : TrOk P C ops n B F0 H0 rs) {D : Nat → Bool} (hcl : ∀ i k, D i = true → Tp ops i k → D k = true) {j : Nat} {r : Rec T} (hr : rs[j]? = some r) (hD : D j = false) {i : Nat} {q : Rec T} (hq : rs[i]? = some q) (hDi : D i = true) {x : Nat} (hx : OkId B (rs.take i) ops q x) : x < r.d.nb ∨ r.d.ne ≤ x := by
  have hle := (h j r hr).le
  have key : ∀ (i : Nat) (q : Rec T), rs[i]? = some q → D i = true → q.d.nb ≤ x → x < q.d.ne → x < r.d.nb ∨ r.d.ne ≤ x := by
    intro i q hq hDi h1 h2
    rcases Nat.lt_trichotomy i j with hij | rfl | hij
    · have := h.ord hij hq hr; exact .inl (by omega)
    · rw [hD] at hDi; cases hDi
    · have := h.ord hij hr hq; exact .inr (by omega)
  rcases hx with hx | ⟨h1, h2⟩ | ⟨q', hq', h1, h2, t⟩
  · exact .inl (by omega)
  · exact key i q hq hDi h1 h2
  · obtain ⟨k, hk, hqk⟩ := take_mem' hq'
    rw [h.idx hq, h.idx hqk] at t
    exact key k q' hqk (hcl i k hDi t) h1 h2
theorem TrOk.fid (hk : OkD ops n) (h : TrOk P C ops n B F0 H0 rs) (hF0 : ∀ t a, F0.get T t = some a → ∀ i ∈ a.ids, i < B) {D : Nat → Bool} (hcl : ∀ i k, D i = true → Tp ops i k → D k = true) {j : Nat} {r : Rec T} (hr : rs[j]? = some r) (hD : D j = false) {t : Nat} {a : AV T.U} (ha : fF D rs (F0.get T) t = some a) : ∀ x ∈ a.ids, x < r.d.nb ∨ r.d.ne ≤ x := by
  intro x hx
  by_cases hw : ∃ q ∈ rs, q.o.dst = some t
  · obtain ⟨q, hq, hd⟩ := hw
    rw [fF_at hq hd fun q' hq' hd' => h.uniq hk hq' hq hd' hd] at ha
    obtain ⟨i, hqi⟩ := List.mem_iff_getElem?.1 hq
    rw [h.idx hqi] at ha
    cases hDi : D i with
    | false =>
      rw [hDi] at ha
      have := hF0 t a ha x hx
      have hle := (h j r hr).le
      exact .inl (by omega)
    | true =>
      rw [hDi] at ha
      simp only [Option.some.injEq] at ha; subst ha
      cases hs : q.skip with
      | true => rw [(h i q hqi).skip hs] at hx; cases hx
      | false => exact h.okId hcl hr hD hqi hDi (((h i q hqi).take hs).ids x hx)
  · rw [fF_none fun q hq hd => hw ⟨q, hq, hd⟩] at ha
    have := hF0 t a ha x hx
    have hle := (h j r hr).le
    exact .inl (by omega)
theorem hF_from {D : Nat → Bool} {e : Nat} : ∀ {rs : List (Rec T)} {f : Nat → Ent T.U}, hF D rs f e = f e ∨ ∃ r ∈ rs, D r.d.j = true ∧ upR r e = some (hF D rs f e)
  | [], f => .inl rfl
  | r :: rs, f => by
    cases hD : D r.d.j with
    | false =>
      have e1 : hF D (r :: rs) f = hF D rs f := by simp only [hF, hD]
      rw [e1]
      rcases hF_from (D := D) (e := e) (rs := rs) (f := f) with h | ⟨q, h1, h2, h3⟩
      · exact .inl h
      · exact .inr ⟨q, List.mem_cons_of_mem _ h1, h2, h3⟩
    | true =>
      have e1 : hF D (r :: rs) f = hF D rs (fun e => (upR r e).getD (f e)) := by simp only [hF, hD]
      rw [e1]
      rcases hF_from (D := D) (e := e) (rs := rs) (f := fun e => (upR r e).getD (f e)) with h | ⟨q, h1, h2, h3⟩
      · rw [h]
        cases hu : upR r e with
        | none => exact .inl (by simp only [Option.getD_none])
        | some x => exact .inr ⟨r, List.mem_cons_self .., hD, by simp only [hu, Option.getD_some]⟩
      · exact .inr ⟨q, List.mem_cons_of_mem _ h1, h2, h3⟩
theorem upR_mem {r : Rec T} {e : Nat} {x : Ent T.U} (h : upR r e = some x) : r.skip = false ∧ x ∈ r.H1 := by
  obtain ⟨hs, _⟩ := upR_cases (by rw [h]; simp : upR r e ≠ none)
  refine ⟨hs, ?_⟩
  unfold upR at h
  rw [hs] at h
  simp only at h
  split at h
  · split at h
    · exact List.mem_of_getElem? h
    · cases h
  · exact List.mem_of_getElem? h
theorem TrOk.hid (h : TrOk P C ops n B F0 H0 rs) (hH0 : ∀ f ∈ H0, ∀ i ∈ f.cellIds, i < B) {D : Nat → Bool} (hcl : ∀ i k, D i = true → Tp ops i k → D k = true) {j : Nat} {r : Rec T} (hr : rs[j]? = some r) (hD : D j = false) {e : Nat} : ∀ x ∈ (hF D rs (base H0) e).cellIds, x < r.d.nb ∨ r.d.ne ≤ x := by
  intro x hx
  rcases hF_from (D := D) (e := e) (rs := rs) (f := base H0) with h1 | ⟨q, hq, hDq, h1⟩
  · rw [h1] at hx
    unfold base at hx
    have hle := (h j r hr).le
    cases hg : H0[e]? with
    | none => rw [hg] at hx; cases hx
    | some f =>
      rw [hg] at hx
      have := hH0 f (List.mem_of_getElem? hg) x hx
      exact .inl (by omega)
  · obtain ⟨i, hqi⟩ := List.mem_iff_getElem?.1 hq
    rw [h.idx hqi] at hDq
    obtain ⟨hs, hm⟩ := upR_mem h1
    exact h.okId hcl hr hD hqi hDq (((h i q hqi).take hs).cids _ hm x hx)
end
end Go.X
