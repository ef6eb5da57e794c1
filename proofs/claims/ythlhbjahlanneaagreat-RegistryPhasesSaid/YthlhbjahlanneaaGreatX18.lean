/- Entries seen anew; what is handed to a call, what comes back of it. Nothing here is about one program. -/
import Derived.Test.YthlhbjahlanneaaGreatX17
namespace Go.X
open Go.RowKit Go.V

section
variable {T : Tab} {P : Program} {w w' : World} {S S' : List Nat} {φ φ' : Nat → RA} {w0 : World} {S0 : Ow} {F : AF T} {H : List (Ent T.U)} {F' F'' : PF}
theorem entsO_len (H : List (Ent T.U)) (ρ : Nat → Nat) : ∀ l : Src, (entsO T H ρ l).length = l.length
  | [] => rfl
  | some i :: r => by simp [entsO, entsO_len H ρ r]
  | none :: r => by simp [entsO, entsO_len H ρ r]
theorem entsO_app (H : List (Ent T.U)) (ρ : Nat → Nat) : ∀ l m : Src, entsO T H ρ (l ++ m) = entsO T H ρ l ++ entsO T H ρ m
  | [], _ => rfl
  | some i :: r, m => by simp [entsO, entsO_app H ρ r m]
  | none :: r, m => by simp [entsO, entsO_app H ρ r m]
theorem entsO_map (H : List (Ent T.U)) (ρ : Nat → Nat) : ∀ l : List Nat, entsO T H ρ (l.map some) = entsOf T H ρ l
  | [] => rfl
  | i :: r => by
    rw [List.map_cons, entsO, entsO_map H ρ r]
    cases hi : H[i]? with
    | none => simp only [entsOf, hi]
    | some e => simp only [entsOf, hi]
theorem entsO_get {H : List (Ent T.U)} {ρ : Nat → Nat} {f : Ent T.U} : ∀ {l : Src} {j : Nat}, (entsO T H ρ l)[j]? = some f → f = .gone ∨ ∃ i e, l[j]? = some (some i) ∧ H[i]? = some e ∧ f = e.ren ρ
  | [], j, h => by simp [entsO] at h
  | some i :: r, 0, h => by
    simp only [entsO, List.getElem?_cons_zero, Option.some.injEq] at h
    split at h
    · rename_i e he; exact .inr ⟨i, e, rfl, he, h.symm⟩
    · exact .inl h.symm
  | none :: r, 0, h => by simp only [entsO, List.getElem?_cons_zero, Option.some.injEq] at h; exact .inl h.symm
  | some i :: r, j + 1, h => by
    rcases entsO_get (l := r) (j := j) (by simpa [entsO] using h) with h | ⟨i, e, a, b, c⟩
    · exact .inl h
    · exact .inr ⟨i, e, by simpa using a, b, c⟩
  | none :: r, j + 1, h => by
    rcases entsO_get (l := r) (j := j) (by simpa [entsO] using h) with h | ⟨i, e, a, b, c⟩
    · exact .inl h
    · exact .inr ⟨i, e, by simpa using a, b, c⟩
def φO (l : Src) (φ : Nat → RA) (j : Nat) : RA := match l[j]? with | some (some i) => φ i | _ => φ j
theorem φO_at {l : Src} {j i : Nat} (h : l[j]? = some (some i)) : φO l φ j = φ i := by unfold φO; rw [h]
theorem φO_idx {l : Src} {i : Nat} (h : some i ∈ l) : φO l φ (idxO i l) = φ i := φO_at (idxO_spec h)
theorem Sim.src (h : Sim T w0 S0 ⟨F, H⟩ F' w S φ) {l : Src} (hn : nodupO l = true) (hp : ∀ k, k < S0.pin.length → l[k]? = some (some k) ∨ l[k]? = some none)
    (h2 : ∀ i e, some i ∈ l → H[i]? = some e → ∀ j ∈ e.cellIds, some j ∈ l) : Sim T w0 S0 ⟨[], entsO T H (fun i => idxO i l) l⟩ [] w S (φO l φ) := by
  refine ⟨fun i a ha => by simp [AF.get] at ha, fun i a ha => by simp [AF.get] at ha, h.chg, h.own, h.ex, ?_, fun k r hk => ?_, ?_, ?_, ?_⟩
  · intro j f hf hl a ha
    rcases entsO_get hf with rfl | ⟨i, e, h5, h6, rfl⟩
    · cases hl
    · rw [φO_at h5] at ha
      exact h.lives i e h6 (by rw [Ent.ren_live] at hl; exact hl) a ha
  · have hk' := hp k (List.getElem?_eq_some_iff.1 hk).1
    have hφ : φO l φ k = φ k := by
      rcases hk' with h | h
      · exact φO_at h
      · unfold φO; rw [h]
    refine ⟨hφ.trans (h.pins k r hk).1, ?_⟩
    simp only [entsO_len]
    rcases hk' with h | h <;> exact (List.getElem?_eq_some_iff.1 h).1
  · intro j f hf
    rcases entsO_get hf with rfl | ⟨i, e, h5, h6, rfl⟩
    · trivial
    · exact (h.ents i e h6).ren (φO_at h5) fun k hk => φO_idx (h2 i e (List.mem_of_getElem? h5) h6 k hk)
  · intro j f hf k hk
    rcases entsO_get hf with rfl | ⟨i, e, h5, h6, rfl⟩
    · cases hk
    · rw [Ent.ren_cellIds] at hk
      obtain ⟨m, hm, rfl⟩ := List.mem_map.1 hk
      simp only [entsO_len]
      exact (List.getElem?_eq_some_iff.1 (idxO_spec (h2 i e (List.mem_of_getElem? h5) h6 m hm))).1
  · intro j k f f' hf hf' hl hl' hjk a b ha hb
    rcases entsO_get hf with rfl | ⟨i, e, h5, h6, rfl⟩
    · cases hl
    · rcases entsO_get hf' with rfl | ⟨i', e', h5', h6', rfl⟩
      · cases hl'
      · rw [φO_at h5] at ha; rw [φO_at h5'] at hb
        rw [Ent.ren_live] at hl hl'
        exact h.apart i i' e e' h6 h6' hl hl' (fun e => hjk (by subst e; exact nodupO_inj hn h5 h5')) a b ha hb
theorem Sim.unpin {c x : List Nat} {p : List RA} (h : Sim T w0 ⟨c, x, p⟩ ⟨F, H⟩ F' w S φ) : Sim T w0 ⟨c, x, []⟩ ⟨F, H⟩ F' w S φ :=
  ⟨h.fr, h.ids, h.chg, h.own, h.ex, h.lives, fun k r hk => by simp at hk, h.ents, h.eids, h.apart⟩
/-- A call begins. -/
theorem Sim.start (h : Sim T w0 S0 ⟨F, H⟩ F' w S φ) : Sim T w ⟨blksN φ H.length, S, (List.range H.length).map φ⟩ ⟨[], H⟩ [] w S φ := by
  refine ⟨fun i a ha => by simp [AF.get] at ha, fun i a ha => by simp [AF.get] at ha, Chg.refl _ _, fun b hb => ⟨.inl hb, (h.own b hb).2⟩, fun b hb _ _ => hb, fun i e he hl a ha => .inl ?_, fun k r hk => ?_, h.ents, h.eids, h.apart⟩
  · unfold blksN
    exact List.mem_flatMap.2 ⟨i, List.mem_range.2 (List.getElem?_eq_some_iff.1 he).1, by unfold blks; rw [ha]; simp⟩
  · have hlt := (List.getElem?_eq_some_iff.1 hk).1
    simp at hlt
    simp [hlt] at hk
    exact ⟨hk, hlt⟩
/-- slots are given. -/
theorem Sim.slots (h : Sim T w0 S0 ⟨[], H⟩ F'' w S φ) {as : List (AV T.U)} {vs : List Value} (hv : VRL T w S φ as vs) (ho : ∀ a ∈ as, okA H a) : Sim T w0 S0 ⟨argFA T as 0, H⟩ (argF vs 0) w S φ :=
  ⟨fun i a ha => argFA_get hv ha, fun i a ha => ho a (argFA_ids ha), h.chg, h.own, h.ex, h.lives, h.pins, h.ents, h.eids, h.apart⟩
/-- the caller's numbers for what comes back. -/
def σJ (ids : List Nat) (n : Nat) (j : Nat) : Nat := match Nat.blt j ids.length with | true => ids.getD j 0 | false => n + (j - ids.length)
theorem σJ_lo {ids : List Nat} {n j : Nat} (h : j < ids.length) : ids[j]? = some (σJ ids n j) := by
  unfold σJ
  rw [show Nat.blt j ids.length = true by rw [Nat.blt_eq]; exact h]
  simp [List.getElem?_eq_getElem h]
theorem σJ_hi {ids : List Nat} {n j : Nat} (h : ids.length ≤ j) : σJ ids n j = n + (j - ids.length) := by
  unfold σJ
  rw [show Nat.blt j ids.length = false by cases hb : Nat.blt j ids.length; rfl; rw [Nat.blt_eq] at hb; omega]
theorem Sim.join (h : Sim T w0 S0 ⟨F, H⟩ F' w S φ) {ids : List Nat} (hn : nodupN ids = true) (hlv : ∀ i ∈ ids, ∃ e, H[i]? = some e ∧ e.live = true) {φc φ1 : Nat → RA} (hφc : ∀ k i, ids[k]? = some i → φc k = φ i) {F1 : PF} {S1 : List Nat} {Pn Nw : List (Ent T.U)}
    (hc : Sim T w ⟨blksN φc ids.length, S, (List.range ids.length).map φc⟩ ⟨[], Pn ++ Nw⟩ F1 w' S1 φ1) (hP : Pn.length = ids.length)
    (hty : ∀ (k i : Nat) (e : TypeId) (t : Ty) (ys : List (den T.U t)), ids[k]? = some i → Pn[k]? = some (.row e t ys) → ∃ xs, H[i]? = some (.row e t xs)) :
    ∃ φ2, Sim T w0 S0 ⟨F, setIo T H ids (Pn.map (Ent.ren (σJ ids H.length))) ++ Nw.map (Ent.ren (σJ ids H.length))⟩ F' w' S1 φ2 ∧
      ∀ a v, VR T w' S1 φ1 a v → (∀ i ∈ a.ids, i < Pn.length + Nw.length) → VR T w' S1 φ2 (a.ren (σJ ids H.length)) v := by
  generalize hσ : σJ ids H.length = σ
  let φ2 : Nat → RA := fun i => if i < H.length then φ i else φ1 (ids.length + (i - H.length))
  have hidl : ∀ k i, ids[k]? = some i → i < H.length := fun k i hk => by
    obtain ⟨e, he, _⟩ := hlv i (List.mem_of_getElem? hk)
    exact (List.getElem?_eq_some_iff.1 he).1
  have hold : ∀ i, i < H.length → φ2 i = φ i := fun i hi => if_pos hi
  have hnewφ : ∀ m, φ2 (H.length + m) = φ1 (ids.length + m) := fun m => by
    show (if H.length + m < H.length then _ else _) = _
    rw [if_neg (by omega), Nat.add_sub_cancel_left]
  have hpin : ∀ k i, ids[k]? = some i → φ1 k = φ i := by
    intro k i hk
    have hlt := (List.getElem?_eq_some_iff.1 hk).1
    rw [← hφc k i hk]
    exact (hc.pins k (φc k) (by simp [hlt])).1
  have hσφ : ∀ j, φ2 (σ j) = φ1 j := by
    intro j
    by_cases hj : j < ids.length
    · have hs := σJ_lo (n := H.length) hj
      rw [hσ] at hs
      rw [hold _ (hidl j _ hs), hpin j _ hs]
    · rw [← hσ, σJ_hi (by omega), hnewφ]
      congr 1; omega
  have hσlt : ∀ j, j < Pn.length + Nw.length → σ j < (setIo T H ids (Pn.map (Ent.ren σ)) ++ Nw.map (Ent.ren σ)).length := by
    intro j hj
    rw [List.length_append, setIo_len, List.length_map]
    by_cases hlt : j < ids.length
    · have hs := σJ_lo (n := H.length) hlt
      rw [hσ] at hs
      have := hidl j _ hs; omega
    · rw [← hσ, σJ_hi (by omega)]; omega
  have hchg : ∀ b ∈ blksN φc ids.length, ∃ (k i : Nat) (a : Addr), ids[k]? = some i ∧ (φ i).ad = some a ∧ a.block = b := by
    intro b hb
    obtain ⟨k, hk, a, ha, rfl⟩ := blksN_mem hb
    have hg := List.getElem?_eq_getElem hk
    exact ⟨k, _, a, hg, by rw [← hφc k _ hg]; exact ha, rfl⟩
  have hTS : ∀ b ∈ blksN φc ids.length, b ∈ S := by
    intro b hb
    obtain ⟨k, i, a, hk, ha, rfl⟩ := hchg b hb
    obtain ⟨e, he, hl⟩ := hlv i (List.mem_of_getElem? hk)
    exact liveIn h he hl ha
  have hTc : ∀ b ∈ blksN φc ids.length, b ∈ S0.chg ∨ w0.heap.size ≤ b := by
    intro b hb
    obtain ⟨k, i, a, hk, ha, rfl⟩ := hchg b hb
    obtain ⟨e, he, hl⟩ := hlv i (List.mem_of_getElem? hk)
    exact h.lives i e he hl a ha
  have hS1 : ∀ b ∈ S1, b ∈ S ∨ w.heap.size ≤ b := fun b hb => (hc.own b hb).1
  have hlen : (Pn.map (Ent.ren σ)).length = ids.length := by rw [List.length_map, hP]
  -- an entry of what comes of it
  have get : ∀ (j : Nat) (f : Ent T.U), (setIo T H ids (Pn.map (Ent.ren σ)) ++ Nw.map (Ent.ren σ))[j]? = some f →
      (∃ (k : Nat) (f0 : Ent T.U), ids[k]? = some j ∧ Pn[k]? = some f0 ∧ f = f0.ren σ ∧ j < H.length) ∨ (j ∉ ids ∧ H[j]? = some f ∧ j < H.length) ∨ (∃ (m : Nat) (f0 : Ent T.U), j = H.length + m ∧ (Pn ++ Nw)[ids.length + m]? = some f0 ∧ f = f0.ren σ) := by
    intro j f hf
    by_cases hj : j < H.length
    · rw [List.getElem?_append_left (by rw [setIo_len]; exact hj)] at hf
      rcases setIo_get ids _ H hlen hf with ⟨k, g1, g2⟩ | ⟨g1, g2⟩
      · rw [List.getElem?_map] at g2
        cases hp : Pn[k]? with
        | none => rw [hp] at g2; cases g2
        | some f0 => rw [hp] at g2; simp only [Option.map_some, Option.some.injEq] at g2; exact .inl ⟨k, f0, g1, hp, g2.symm, hj⟩
      · exact .inr (.inl ⟨g1, g2, hj⟩)
    · rw [List.getElem?_append_right (by rw [setIo_len]; omega), setIo_len, List.getElem?_map] at hf
      cases hp : Nw[j - H.length]? with
      | none => rw [hp] at hf; cases hf
      | some f0 =>
        rw [hp] at hf; simp only [Option.map_some, Option.some.injEq] at hf
        refine .inr (.inr ⟨j - H.length, f0, by omega, ?_, hf.symm⟩)
        rw [List.getElem?_append_right (by omega), hP, Nat.add_sub_cancel_left]; exact hp
  have getP : ∀ {k : Nat} {f0 : Ent T.U}, Pn[k]? = some f0 → (Pn ++ Nw)[k]? = some f0 := fun hk => by
    rw [List.getElem?_append_left (List.getElem?_eq_some_iff.1 hk).1]; exact hk
  refine ⟨φ2, ⟨?_, ?_, h.chg.step hc.chg hTc, fun b hb => ⟨?_, (hc.own b hb).2⟩, fun b hb q1 q2 => hc.ex b (h.ex b hb q1 q2) (fun hm => (hTc b hm).elim q1 fun hm => by omega) (h.own b (h.ex b hb q1 q2)).2, ?_, fun k r hk => ?_, ?_, ?_, ?_⟩, fun a v hv hi => hv.ren T fun i _ => hσφ i⟩
  · intro i a ha
    obtain ⟨v, h1, h2⟩ := h.fr i a ha
    exact ⟨v, h1, (h2.chg T hc.chg hTS hS1).phi fun j hj => hold j ((h.ids i a ha).1 j hj)⟩
  · intro i a ha
    obtain ⟨h1, h2⟩ := h.ids i a ha
    refine ⟨fun j hj => by have := h1 j hj; simp only [List.length_append, setIo_len] at this ⊢; omega, ?_⟩
    cases a with
    | eptr y sz k c =>
      have hy := h1 y (by simp [AV.ids])
      intro e t xs hx
      rcases get y _ hx with ⟨k', f0, g1, g2, g3, _⟩ | ⟨_, g2, _⟩ | ⟨m, _, g1, _⟩
      · cases f0 with
        | row e1 t1 ys =>
          simp only [Ent.ren, Ent.row.injEq] at g3
          obtain ⟨rfl, rfl, g3⟩ := g3
          have := eq_of_heq g3; subst this
          obtain ⟨zs, g4⟩ := hty k' y _ _ _ g1 g2
          obtain ⟨q4, q5⟩ := h2 _ _ _ g4
          obtain ⟨_, _, _, n1, _⟩ := h.ents y _ g4
          obtain ⟨_, _, _, n2, _⟩ := hc.ents k' _ (getP g2)
          rw [hpin k' y g1] at n2
          exact ⟨by omega, q5⟩
        | blk _ _ => cases g3
        | map _ _ => cases g3
        | tmap _ _ _ => cases g3
        | gone => cases g3
      · exact h2 e t xs g2
      · simp only at hy; omega
    | _ => trivial
  · rcases (hc.own b hb).1 with hb | hb
    · exact (h.own b hb).1
    · exact .inr (Nat.le_trans h.chg.size hb)
  · intro j f hf hl a ha
    rcases get j f hf with ⟨k, f0, g1, g2, rfl, hj⟩ | ⟨_, g2, hj⟩ | ⟨m, f0, rfl, g2, rfl⟩
    · rw [hold j hj] at ha
      obtain ⟨e, he, hl'⟩ := hlv j (List.mem_of_getElem? g1)
      exact h.lives j e he hl' a ha
    · rw [hold j hj] at ha
      exact h.lives j f g2 hl a ha
    · rw [hnewφ] at ha
      rcases hc.lives _ f0 g2 (by rw [Ent.ren_live] at hl; exact hl) a ha with hm | hm
      · exact hTc _ hm
      · exact .inr (Nat.le_trans h.chg.size hm)
  · obtain ⟨g1, g2⟩ := h.pins k r hk
    simp only at g2
    exact ⟨(hold k g2).trans g1, by simp only [List.length_append, setIo_len]; omega⟩
  · intro j f hf
    rcases get j f hf with ⟨k, f0, g1, g2, rfl, hj⟩ | ⟨hj, g2, hjl⟩ | ⟨m, f0, rfl, g2, rfl⟩
    · exact (hc.ents k f0 (getP g2)).ren ((hold j hj).trans (hpin k j g1).symm) fun x _ => hσφ x
    · have hnot : f.live = true → ∀ a, (φ j).ad = some a → a.block ∉ blksN φc ids.length := fun hl a ha hb => by
        obtain ⟨k, i, a', hk, ha', hbe⟩ := hchg _ hb
        obtain ⟨e, he, hl'⟩ := hlv i (List.mem_of_getElem? hk)
        exact h.apart j i f e g2 he hl hl' (fun e => hj (e ▸ List.mem_of_getElem? hk)) a a' ha ha' hbe.symm
      have h1 := (h.ents j f g2).chg T hc.chg hTS hS1 fun hl a ha => ⟨hnot hl a ha, hc.ex _ (liveIn h g2 hl ha) (hnot hl a ha) (h.own _ (liveIn h g2 hl ha)).2⟩
      have := h1.ren (ρ := id) (φ' := φ2) (j := j) (hold j hjl) fun x hx => hold x (h.eids j f g2 x hx)
      cases f with
      | blk e cs => simpa only [Ent.ren, renL_id] using this
      | map k es => simpa only [Ent.ren, renM_id] using this
      | row e t xs => exact this
      | tmap k t m => exact this
      | gone => trivial
    · exact (hc.ents _ f0 g2).ren (hnewφ m) fun x _ => hσφ x
  · intro j f hf x hx
    rcases get j f hf with ⟨k, f0, g1, g2, rfl, hj⟩ | ⟨hj, g2, hjl⟩ | ⟨m, f0, rfl, g2, rfl⟩
    · rw [Ent.ren_cellIds] at hx
      obtain ⟨y, hy, rfl⟩ := List.mem_map.1 hx
      exact hσlt y (by have := hc.eids k f0 (getP g2) y hy; simp only [List.length_append] at this; exact this)
    · have := h.eids j f g2 x hx
      simp only [List.length_append, setIo_len] at this ⊢; omega
    · rw [Ent.ren_cellIds] at hx
      obtain ⟨y, hy, rfl⟩ := List.mem_map.1 hx
      exact hσlt y (by have := hc.eids _ f0 g2 y hy; simp only [List.length_append] at this; exact this)
  · -- what is new lies apart of what is old
    have cross : ∀ (j : Nat) (f : Ent T.U), (setIo T H ids (Pn.map (Ent.ren σ)) ++ Nw.map (Ent.ren σ))[j]? = some f → j < H.length → f.live = true → ∀ (m : Nat) (f0 : Ent T.U), (Pn ++ Nw)[ids.length + m]? = some f0 → f0.live = true →
        ∀ a b, (φ j).ad = some a → (φ1 (ids.length + m)).ad = some b → a.block ≠ b.block := by
      intro j f hf hj hl m f0 hm hl0 a b ha hb
      rcases get j f hf with ⟨k, f1, g1, g2, rfl, _⟩ | ⟨hni, g2, _⟩ | ⟨m', _, g1, _⟩
      · have hk := (List.getElem?_eq_some_iff.1 g1).1
        exact hc.apart k _ f1 f0 (getP g2) hm (by rw [Ent.ren_live] at hl; exact hl) hl0 (by omega) a b (by rw [hpin k j g1]; exact ha) hb
      · rcases hc.lives _ f0 hm hl0 b hb with hb' | hb'
        · obtain ⟨k, i, a', hk, ha', hbe⟩ := hchg _ hb'
          obtain ⟨e, he, hl'⟩ := hlv i (List.mem_of_getElem? hk)
          rw [← hbe]
          exact h.apart j i f e g2 he hl hl' (fun e => hni (e ▸ List.mem_of_getElem? hk)) a a' ha ha'
        · have := (h.own _ (liveIn h g2 hl ha)).2; omega
      · omega
    intro i j f f' hf hf' hl hl' hij a b ha hb
    by_cases hi : i < H.length <;> by_cases hj : j < H.length
    · rw [hold i hi] at ha; rw [hold j hj] at hb
      have old : ∀ (j : Nat) (f : Ent T.U), (setIo T H ids (Pn.map (Ent.ren σ)) ++ Nw.map (Ent.ren σ))[j]? = some f → j < H.length → f.live = true → ∃ e, H[j]? = some e ∧ e.live = true := by
        intro j f hf hj hl
        rcases get j f hf with ⟨k, f1, g1, _⟩ | ⟨_, g2, _⟩ | ⟨m', _, g1, _⟩
        · exact hlv j (List.mem_of_getElem? g1)
        · exact ⟨f, g2, hl⟩
        · omega
      obtain ⟨e, g1, g2⟩ := old i f hf hi hl
      obtain ⟨e', g1', g2'⟩ := old j f' hf' hj hl'
      exact h.apart i j e e' g1 g1' g2 g2' hij a b ha hb
    · rcases get j f' hf' with ⟨_, _, _, _, _, g⟩ | ⟨_, _, g⟩ | ⟨m, f0, rfl, g2, rfl⟩
      · omega
      · omega
      · rw [hold i hi] at ha; rw [hnewφ] at hb
        exact cross i f hf hi hl m f0 g2 (by rw [Ent.ren_live] at hl'; exact hl') a b ha hb
    · rcases get i f hf with ⟨_, _, _, _, _, g⟩ | ⟨_, _, g⟩ | ⟨m, f0, rfl, g2, rfl⟩
      · omega
      · omega
      · rw [hold j hj] at hb; rw [hnewφ] at ha
        exact (cross j f' hf' hj hl' m f0 g2 (by rw [Ent.ren_live] at hl; exact hl) b a hb ha).symm
    · rcases get i f hf with ⟨_, _, _, _, _, g⟩ | ⟨_, _, g⟩ | ⟨m, f0, rfl, g2, rfl⟩
      · omega
      · omega
      · rcases get j f' hf' with ⟨_, _, _, _, _, g⟩ | ⟨_, _, g⟩ | ⟨m', f0', rfl, g2', rfl⟩
        · omega
        · omega
        · rw [hnewφ] at ha hb
          rw [Ent.ren_live] at hl hl'
          exact hc.apart _ _ f0 f0' g2 g2' hl hl' (by omega) a b ha hb
end
end Go.X
