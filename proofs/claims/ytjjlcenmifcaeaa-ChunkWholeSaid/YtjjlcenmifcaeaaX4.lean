/- A state of the interpreter stands for a frame and a world: what keeps it so. Nothing here is about one program. -/
import Derived.Test.YtjjlcenmifcaeaaX3
namespace Go.X
open Go.RowKit Go.V

mutual
theorem ren_id {U : Nat → Type} : ∀ a : AV U, a.ren id = a
  | .cell _ => by rw [AV.ren]
  | .ptr _ _ => by rw [AV.ren]; rfl
  | .eptr _ _ _ _ => by rw [AV.ren]; rfl
  | .lptr _ _ _ _ => by rw [AV.ren]
  | .own _ => by rw [AV.ren]; rfl
  | .sl _ _ _ _ => by rw [AV.ren]; rfl
  | .agg cs => by rw [AV.ren, renL_id cs]
  | .tup cs => by rw [AV.ren, renL_id cs]
  | .fn _ a b => by rw [AV.ren, renL_id a, renL_id b]
  | .ifc _ a => by rw [AV.ren, ren_id a]
  | .raw _ => by rw [AV.ren]
  | .arr _ _ _ => by rw [AV.ren]
  | .aptr _ _ _ _ _ _ => by rw [AV.ren]; rfl
  | .asl _ _ _ _ _ _ => by rw [AV.ren]; rfl
  | .mp _ => by rw [AV.ren]; rfl
theorem renL_id {U : Nat → Type} : ∀ l : List (AV U), renL id l = l
  | [] => rfl
  | a :: r => by rw [renL, ren_id a, renL_id r]
end
section
variable {T : Tab} {P : Program} {w w' : World} {S S' : List Nat} {φ φ' : Nat → RA}
theorem VR.phiS {a : AV T.U} {v : Value} (h : VR T w S φ a v) (hi : ∀ i ∈ a.ids, RSame (φ' i) (φ i)) : VR T w S φ' a v := by
  have := VR.renS T (ρ := id) (φ' := φ') hi h
  rwa [ren_id] at this
theorem VR.phi {a : AV T.U} {v : Value} (h : VR T w S φ a v) (hi : ∀ i ∈ a.ids, φ' i = φ i) : VR T w S φ' a v := by
  have := VR.ren T (ρ := id) (φ' := φ') hi h
  rwa [ren_id] at this
theorem VRL.phi {as : List (AV T.U)} {vs : List Value} (h : VRL T w S φ as vs) (hi : ∀ i ∈ idsL as, φ' i = φ i) : VRL T w S φ' as vs := by
  have := VRL.ren T (ρ := id) (φ' := φ') hi h
  rwa [renL_id] at this
theorem BR.phi {cs : List (AV T.U)} {vs : List Value} (h : BR T w S φ cs vs) (hi : ∀ i ∈ idsL cs, φ' i = φ i) : BR T w S φ' cs vs := ⟨h.1.phi (by rw [expL_ids]; exact hi), h.2⟩
theorem renM_id {U : Nat → Type} : ∀ l : List (Int × AV U), renM id l = l
  | [] => rfl
  | (x, a) :: r => by rw [renM, ren_id a, renM_id r]
/-- a value's numbers are those of entries; an element's place lies within. -/
def okA (H : List (Ent T.U)) (a : AV T.U) : Prop := (∀ i ∈ a.ids, i < H.length) ∧ match a with | .eptr i sz k _ => ∀ e t xs, H[i]? = some (.row e t xs) → k < xs.length ∧ szT T t = sz | _ => True
def Ent.cellIds {U : Nat → Type} : Ent U → List Nat | .blk _ cs => idsL cs | .map _ es => idsM es | .drow _ _ _ _ op => idsQ op | .pmap _ _ _ _ op => idsP op | _ => []
theorem renQ_id {U : Nat → Type} (op : Option (Nat × List (AV U))) : renQ id op = op := by
  cases op with
  | none => rfl
  | some p => obtain ⟨a, cs⟩ := p; rw [renQ, renL_id]
theorem renP_id (op : Option (Int × Nat)) : renP id op = op := by cases op <;> rfl
/-- an entry, its own place unchanged. -/
theorem EntR.phiE {i : Nat} {e : Ent T.U} (h : EntR T w S φ i e) (hi : φ' i = φ i) (hc : ∀ k ∈ e.cellIds, RSame (φ' k) (φ k)) : EntR T w S φ' i e := by
  cases e with
  | blk e cs =>
    obtain ⟨g, c, a1, a2, a3, a4⟩ := h
    have := a4.renS T (ρ := id) (φ' := φ') hc
    rw [renL_id] at this
    exact ⟨g, c, by rw [hi]; exact a1, a2, a3, this⟩
  | row e t xs => obtain ⟨B, vals, a1, a2, a3, a4, a5⟩ := h; exact ⟨B, vals, by rw [hi]; exact a1, by rw [hi]; exact a2, a3, a4, by rw [hi]; exact a5⟩
  | map k es =>
    obtain ⟨g, l, c, a1, a2, a3, a4, a5⟩ := h
    have := a4.renS T (ρ := id) (φ' := φ') hc
    rw [renM_id] at this
    exact ⟨g, l, c, by rw [hi]; exact a1, a2, a3, this, a5⟩
  | tmap k t m => obtain ⟨g, l, c, a1, a2⟩ := h; exact ⟨g, l, c, by rw [hi]; exact a1, a2⟩
  | drow e d fe xs op =>
    obtain ⟨B, vals, a1, a2, a3, a4, a5⟩ := h
    have := a5.renS T (ρ := id) (φ' := φ') hc
    rw [renQ_id] at this
    exact ⟨B, vals, by rw [hi]; exact a1, by rw [hi]; exact a2, a3, by rw [hi]; exact a4, by rw [hi]; exact this⟩
  | pmap k be d m op =>
    obtain ⟨g, l, c, bs, a1, a2, a3, a4, a5⟩ := h
    have := a4.renS T (ρ := id) (φ' := φ') hc
    rw [renP_id] at this
    exact ⟨g, l, c, bs, by rw [hi]; exact a1, a2, a3, by rw [hi]; exact this, a5⟩
  | gone => trivial
/-- The blocks of before that may be changed; those in which no list lies, from the beginning (all but those that may be changed are so for good); where the first entries lie. -/
structure Ow where
  chg : List Nat
  ex : List Nat
  pin : List RA
structure Sim (T : Tab) (w0 : World) (S0 : Ow) (st : St T) (F' : PF) (w : World) (S : List Nat) (φ : Nat → RA) : Prop where
  fr : FR T w S φ st.F F'
  ids : ∀ i a, st.F.get T i = some a → okA st.H a
  chg : Chg S0.chg w0 w
  own : ∀ b ∈ S, (b ∈ S0.ex ∨ w0.heap.size ≤ b) ∧ b < w.heap.size
  ex : ∀ b ∈ S0.ex, b ∉ S0.chg → b < w0.heap.size → b ∈ S
  lives : ∀ (i : Nat) (e : Ent T.U), st.H[i]? = some e → e.live = true → ∀ a, At (φ i) a → a.block ∈ S ∧ (a.block ∈ S0.chg ∨ w0.heap.size ≤ a.block)
  pins : ∀ (k : Nat) (r : RA), S0.pin[k]? = some r → RSame (φ k) r ∧ k < st.H.length
  ents : ∀ (i : Nat) (e : Ent T.U), st.H[i]? = some e → EntR T w S φ i e
  eids : ∀ (i : Nat) (e : Ent T.U), st.H[i]? = some e → ∀ j ∈ e.cellIds, j < st.H.length
  apart : ∀ (i j : Nat) (e e' : Ent T.U), st.H[i]? = some e → st.H[j]? = some e' → e.live = true → e'.live = true → i ≠ j → ∀ a b, At (φ i) a → At (φ j) b → a.block ≠ b.block
/-- The state stands for a frame and a world, which came of w0. -/
def Stands (T : Tab) (w0 : World) (S0 : Ow) (st : St T) (F' : PF) (w : World) : Prop := ∃ S φ, Sim T w0 S0 st F' w S φ
variable {w0 : World} {S0 : Ow} {F : AF T} {H : List (Ent T.U)} {F' : PF}
theorem getA_upd {dst : Option Tmp} {a : AV T.U} {i : Nat} {b : AV T.U} (h : (updA T F dst a).get T i = some b) : (dst = some i ∧ b = a) ∨ (dst ≠ some i ∧ F.get T i = some b) := by
  cases dst with
  | none => exact .inr ⟨by simp, h⟩
  | some d =>
    simp only [updA, AF.get] at h
    split at h
    · rename_i hb
      have := Nat.eq_of_beq_eq_true hb; subst this
      simp only [Option.some.injEq] at h; exact .inl ⟨rfl, h.symm⟩
    · rename_i hb
      exact .inr ⟨by simp only [ne_eq, Option.some.injEq]; intro e; subst e; simp at hb, h⟩
theorem get_upd_ne {dst : Option Tmp} {v : Value} {i : Nat} (h : dst ≠ some i) : (upd F' dst v).get i = F'.get i := by
  cases dst with
  | none => rfl
  | some d =>
    simp only [upd, PF.get]
    split
    · rename_i hb; have := Nat.eq_of_beq_eq_true hb; subst this; exact absurd rfl h
    · rfl
theorem get_upd_eq {i : Nat} {v : Value} : (upd F' (some i) v).get i = some v := by
  simp [upd, PF.get, Nat.beq_refl]
/-- a slot is written. -/
theorem Sim.slot (h : Sim T w0 S0 ⟨F, H⟩ F' w S φ) {dst : Option Tmp} {a : AV T.U} {v : Value} (hv : VR T w S φ a v) (hok : okA H a) : Sim T w0 S0 ⟨updA T F dst a, H⟩ (upd F' dst v) w S φ := by
  refine ⟨?_, ?_, h.chg, h.own, h.ex, h.lives, h.pins, h.ents, h.eids, h.apart⟩
  · intro i b hb
    rcases getA_upd hb with ⟨rfl, rfl⟩ | ⟨h1, h2⟩
    · exact ⟨v, get_upd_eq, hv⟩
    · obtain ⟨u, hu, hr⟩ := h.fr i b h2
      exact ⟨u, by rw [get_upd_ne h1]; exact hu, hr⟩
  · intro i b hb
    rcases getA_upd hb with ⟨_, rfl⟩ | ⟨_, h2⟩
    · exact hok
    · exact h.ids i b h2
theorem Sim.pure (h : Sim T w0 S0 ⟨F, H⟩ F' w S φ) (hc : Chg [] w w') : Sim T w0 S0 ⟨F, H⟩ F' w' S φ := by
  refine ⟨?_, h.ids, h.chg.pure hc, fun b hb => ⟨(h.own b hb).1, Nat.lt_of_lt_of_le (h.own b hb).2 hc.size⟩, h.ex, h.lives, h.pins, ?_, h.eids, h.apart⟩
  · intro i a ha
    obtain ⟨v, h1, h2⟩ := h.fr i a ha
    exact ⟨v, h1, h2.chg T hc (by simp) (fun b hb => .inl hb)⟩
  · intro i e he
    have hl : e.live = true → ∀ a, At (φ i) a → a.block ∈ S := fun hlv a ha => (h.lives i e he hlv a ha).1
    exact (h.ents i e he).chg T hc (by simp) (fun b hb => .inl hb) fun hlv a ha => ⟨by simp, hl hlv a ha⟩
def setR (φ : Nat → RA) (n : Nat) (r : RA) : Nat → RA := fun i => if i = n then r else φ i
theorem setR_ne {n i : Nat} {r : RA} (h : i ≠ n) : setR φ n r i = φ i := by unfold setR; rw [if_neg h]
theorem setR_eq {n : Nat} {r : RA} : setR φ n r n = r := by unfold setR; rw [if_pos rfl]
theorem liveAt (h : Sim T w0 S0 ⟨F, H⟩ F' w S φ) {i : Nat} {e : Ent T.U} (he : H[i]? = some e) (hl : e.live = true) {a : Addr} (ha : At (φ i) a) : a.block ∈ S := (h.lives i e he hl a ha).1
theorem liveIn (h : Sim T w0 S0 ⟨F, H⟩ F' w S φ) {i : Nat} {e : Ent T.U} (he : H[i]? = some e) (hl : e.live = true) {a : Addr} (ha : (φ i).ad = some a) : a.block ∈ S := (h.lives i e he hl a (.inl ha)).1
def RA.all (r : RA) : List Nat := blks r.ad ++ r.xs
theorem mem_all {r : RA} {b : Nat} : b ∈ r.all ↔ ∃ a, At r a ∧ a.block = b := by
  unfold RA.all
  rw [List.mem_append]
  constructor
  · rintro (h | h)
    · unfold blks at h
      split at h
      · rename_i a ha; simp at h; exact ⟨a, .inl ha, h.symm⟩
      · cases h
    · exact ⟨⟨b, 0, none⟩, .inr h, rfl⟩
  · rintro ⟨a, h | h, rfl⟩
    · left; rw [h]; simp [blks]
    · exact .inr h
theorem at_ad {ad : Option Addr} {n c : Nat} {a : Addr} (h : At ⟨ad, n, c, []⟩ a) : ad = some a := by
  rcases h with h | h
  · exact h
  · cases h
theorem at_new {g n c : Nat} {a : Addr} (h : At ⟨some ⟨g, 0, none⟩, n, c, []⟩ a) : a.block = g := by
  rcases h with h | h
  · simp only [Option.some.injEq] at h; subst h; rfl
  · cases h
/-- an entry more, in a block that is new, or that no entry holds. -/
theorem Sim.addG (h : Sim T w0 S0 ⟨F, H⟩ F' w S φ) {Tc : List Nat} (hc : Chg Tc w w') (hT : ∀ b ∈ Tc, b ∈ S) (hTc : ∀ b ∈ Tc, b ∈ S0.chg ∨ w0.heap.size ≤ b) (hfree : ∀ (j : Nat) (e : Ent T.U), H[j]? = some e → e.live = true → ∀ a, At (φ j) a → a.block ∉ Tc) (hsub : ∀ b ∈ S, b ∈ S') (hS' : ∀ b ∈ S', b ∈ S ∨ (w.heap.size ≤ b ∧ b < w'.heap.size)) {r : RA} {e : Ent T.U} (hr : ∀ a, At r a → w.heap.size ≤ a.block ∨ a.block ∈ Tc) (hrS : ∀ a, At r a → a.block ∈ S')
    (he : EntR T w' S' (setR φ H.length r) H.length e) (hids : ∀ j ∈ e.cellIds, j < H.length + 1) :
    Sim T w0 S0 ⟨F, H ++ [e]⟩ F' w' S' (setR φ H.length r) := by
  have hS : ∀ b ∈ S', b ∈ S ∨ w.heap.size ≤ b := fun b hb => (hS' b hb).imp id And.left
  have get : ∀ i f, (H ++ [e])[i]? = some f → (i < H.length ∧ H[i]? = some f) ∨ (i = H.length ∧ f = e) := by
    intro i f hf
    rcases Nat.lt_trichotomy i H.length with hi | hi | hi
    · rw [List.getElem?_append_left hi] at hf; exact .inl ⟨hi, hf⟩
    · subst hi; simp at hf; exact .inr ⟨rfl, hf.symm⟩
    · rw [List.getElem?_eq_none (by simp; omega)] at hf; cases hf
  have hnew : ∀ (j : Nat) (f : Ent T.U), H[j]? = some f → f.live = true → ∀ a, At (φ j) a → ∀ b, At r b → a.block ≠ b.block := by
    intro j f hf hl a ha b hb e
    rcases hr b hb with hg | hg
    · have := (h.own _ (liveAt h hf hl ha)).2; omega
    · exact hfree j f hf hl a ha (e ▸ hg)
  refine ⟨?_, ?_, ?_, ?_, fun b hb q1 q2 => hsub _ (h.ex b hb q1 q2), ?_, fun k r hk => ?_, ?_, ?_, ?_⟩
  · intro i a ha
    obtain ⟨v, h1, h2⟩ := h.fr i a ha
    refine ⟨v, h1, (h2.chg T hc hT hS).phi fun j hj => setR_ne ?_⟩
    have := (h.ids i a ha).1 j hj
    simp only at this; omega
  · intro i a ha
    obtain ⟨h1, h2⟩ := h.ids i a ha
    refine ⟨fun j hj => by have := h1 j hj; simp at this ⊢; omega, ?_⟩
    cases a with
    | eptr j sz k c =>
      intro e' t xs hx
      rcases get _ _ hx with ⟨_, hx⟩ | ⟨hj, _⟩
      · exact h2 e' t xs hx
      · have := h1 j (by simp [AV.ids]); simp at this; omega
    | _ => trivial
  · exact h.chg.step hc hTc
  · intro b hb
    rcases hS' b hb with hb | ⟨hg, hgl⟩
    · exact ⟨(h.own b hb).1, Nat.lt_of_lt_of_le (h.own b hb).2 hc.size⟩
    · exact ⟨.inr (Nat.le_trans h.chg.size hg), hgl⟩
  · intro i f hf hl a ha
    rcases get i f hf with ⟨hi, hf⟩ | ⟨rfl, rfl⟩
    · rw [setR_ne (by omega)] at ha; have q := h.lives i f hf hl a ha; exact ⟨hsub _ q.1, q.2⟩
    · rw [setR_eq] at ha
      refine ⟨hrS a ha, ?_⟩
      rcases hr a ha with hg | hg
      · exact .inr (Nat.le_trans h.chg.size hg)
      · exact hTc _ hg
  · obtain ⟨h1, h2⟩ := h.pins k r hk
    simp only at h2
    exact ⟨by rw [setR_ne (by omega)]; exact h1, by simp only [List.length_append]; omega⟩
  · intro i f hf
    rcases get i f hf with ⟨hi, hf⟩ | ⟨rfl, rfl⟩
    · have h1 := (h.ents i f hf).chg T hc (S' := S') hT hS fun hl a ha => ⟨hfree i f hf hl a ha, hsub _ (liveAt h hf hl ha)⟩
      have hne : i ≠ H.length := by omega
      refine h1.phiE (setR_ne hne) fun j hj => .of (setR_ne ?_)
      have := h.eids i _ hf j hj; simp only at this; omega
    · exact he
  · intro i f hf j hj
    simp only [List.length_append, List.length_cons, List.length_nil]
    rcases get i f hf with ⟨hi, hf⟩ | ⟨rfl, rfl⟩
    · have := h.eids i f hf j hj; simp only at this; omega
    · exact hids j hj
  · intro i j f f' hf hf' hl hl' hij a b ha hb
    rcases get i f hf with ⟨hi, hk⟩ | ⟨rfl, rfl⟩ <;> rcases get j f' hf' with ⟨hj, hk'⟩ | ⟨rfl, rfl⟩
    · rw [setR_ne (by omega)] at ha hb; exact h.apart i j f f' hk hk' hl hl' hij a b ha hb
    · rw [setR_ne (by omega)] at ha; rw [setR_eq] at hb
      exact hnew i f hk hl a ha b hb
    · rw [setR_eq] at ha; rw [setR_ne (by omega)] at hb
      exact (hnew j f' hk' hl' b hb a ha).symm
    · exact absurd rfl hij
theorem Sim.add (h : Sim T w0 S0 ⟨F, H⟩ F' w S φ) {g : Nat} (hc : Chg [] w w') (hg : w.heap.size ≤ g) (hgl : g < w'.heap.size) {r : RA} {e : Ent T.U} (hr : ∀ a, At r a → a.block = g) (he : EntR T w' (g :: S) (setR φ H.length r) H.length e) (hids : ∀ j ∈ e.cellIds, j < H.length + 1) :
    Sim T w0 S0 ⟨F, H ++ [e]⟩ F' w' (g :: S) (setR φ H.length r) := h.addG hc (by simp) (by simp) (fun _ _ _ _ _ _ => by simp) (fun b hb => List.mem_cons_of_mem _ hb) (fun b hb => by
    rcases List.mem_cons.1 hb with rfl | hb
    · exact .inr ⟨hg, hgl⟩
    · exact .inl hb) (fun a ha => .inl (by rw [hr a ha]; exact hg)) (fun a ha => by rw [hr a ha]; exact List.mem_cons_self ..) he hids
/-- an entry changes; nothing else does. -/
theorem Sim.upd (h : Sim T w0 S0 ⟨F, H⟩ F' w S φ) {i : Nat} {e0 e : Ent T.U} (hi : H[i]? = some e0) (hlv : e0.live = true) {Tc : List Nat} (hc : Chg Tc w w') (hT : ∀ b ∈ Tc, ∃ a, At (φ i) a ∧ a.block = b)
    (he : EntR T w' S φ i e) (hids : ∀ j ∈ e.cellIds, j < H.length) (hrow : ∀ e1 t xs, e = .row e1 t xs → ∃ e2 ys, e0 = .row e2 t ys ∧ ys.length ≤ xs.length) : Sim T w0 S0 ⟨F, H.set i e⟩ F' w' S φ := by
  have hTS : ∀ b ∈ Tc, b ∈ S := by
    intro b hb
    obtain ⟨a, ha, rfl⟩ := hT b hb
    exact liveAt h hi hlv ha
  have hil : i < H.length := (List.getElem?_eq_some_iff.1 hi).1
  have get : ∀ j f, (H.set i e)[j]? = some f → (j = i ∧ f = e) ∨ (j ≠ i ∧ H[j]? = some f) := by
    intro j f hf
    by_cases hji : j = i
    · subst hji; rw [List.getElem?_set_self hil] at hf; simp only [Option.some.injEq] at hf; exact .inl ⟨rfl, hf.symm⟩
    · rw [List.getElem?_set_ne (Ne.symm hji)] at hf; exact .inr ⟨hji, hf⟩
  refine ⟨?_, ?_, ?_, ?_, h.ex, ?_, fun k r hk => ?_, ?_, ?_, ?_⟩
  · intro j a ha
    obtain ⟨v, h1, h2⟩ := h.fr j a ha
    exact ⟨v, h1, h2.chg T hc hTS (fun b hb => .inl hb)⟩
  · intro j a ha
    obtain ⟨h1, h2⟩ := h.ids j a ha
    refine ⟨fun x hx => by simpa using h1 x hx, ?_⟩
    cases a with
    | eptr y sz k c =>
      intro e1 t xs hx
      rcases get _ _ hx with ⟨hy, hx2⟩ | ⟨_, hx2⟩
      · obtain ⟨e2, ys, he2, hl⟩ := hrow e1 t xs hx2.symm
        subst he2; subst hy
        obtain ⟨g1, g2⟩ := h2 e2 t ys hi
        exact ⟨by omega, g2⟩
      · exact h2 e1 t xs hx2
    | _ => trivial
  · refine h.chg.step hc fun b hb => ?_
    obtain ⟨a, ha, rfl⟩ := hT b hb
    exact (h.lives i e0 hi hlv a ha).2
  · exact fun b hb => ⟨(h.own b hb).1, Nat.lt_of_lt_of_le (h.own b hb).2 hc.size⟩
  · intro j f hf hl a ha
    rcases get j f hf with ⟨rfl, rfl⟩ | ⟨_, hf⟩
    · exact h.lives j e0 hi hlv a ha
    · exact h.lives j f hf hl a ha
  · obtain ⟨h1, h2⟩ := h.pins k r hk
    exact ⟨h1, by simpa using h2⟩
  · intro j f hf
    rcases get j f hf with ⟨rfl, rfl⟩ | ⟨hji, hf⟩
    · exact he
    · refine (h.ents j f hf).chg T hc hTS (fun b hb => .inl hb) fun hl a ha => ⟨fun hb => ?_, liveAt h hf hl ha⟩
      obtain ⟨a', ha', hbe⟩ := hT _ hb
      exact h.apart j i f e0 hf hi hl hlv hji a a' ha ha' hbe.symm
  · intro j f hf x hx
    simp only [List.length_set]
    rcases get j f hf with ⟨rfl, rfl⟩ | ⟨_, hf⟩
    · exact hids x hx
    · exact h.eids j f hf x hx
  · intro j k f f' hf hf' hl hl' hjk a b ha hb
    rcases get j f hf with ⟨rfl, rfl⟩ | ⟨hj, hk⟩ <;> rcases get k f' hf' with ⟨rfl, rfl⟩ | ⟨hj', hk'⟩
    · exact absurd rfl hjk
    · exact h.apart j k e0 f' hi hk' hlv hl' hjk a b ha hb
    · exact h.apart j k f e0 hk hi hl hlv hjk a b ha hb
    · exact h.apart j k f f' hk hk' hl hl' hjk a b ha hb
/-- an entry is given up. -/
theorem Sim.drop (h : Sim T w0 S0 ⟨F, H⟩ F' w S φ) (i : Nat) : Sim T w0 S0 ⟨F, H.set i .gone⟩ F' w S φ := by
  have get : ∀ (j : Nat) (f : Ent T.U), (H.set i .gone)[j]? = some f → f = .gone ∨ H[j]? = some f := by
    intro j f hf
    by_cases hji : j = i
    · subst hji
      by_cases hl : j < H.length
      · rw [List.getElem?_set_self hl] at hf; simp only [Option.some.injEq] at hf; exact .inl hf.symm
      · rw [List.getElem?_eq_none (by simp; omega)] at hf; cases hf
    · rw [List.getElem?_set_ne (Ne.symm hji)] at hf; exact .inr hf
  refine ⟨h.fr, ?_, h.chg, h.own, h.ex, ?_, fun k r hk => ?_, ?_, ?_, ?_⟩
  · intro j a ha
    obtain ⟨h1, h2⟩ := h.ids j a ha
    refine ⟨fun x hx => by simpa using h1 x hx, ?_⟩
    cases a with
    | eptr y sz k c =>
      intro e1 t xs hx
      rcases get _ _ hx with hx | hx
      · cases hx
      · exact h2 e1 t xs hx
    | _ => trivial
  · intro j f hf hl a ha
    rcases get j f hf with rfl | hf
    · cases hl
    · exact h.lives j f hf hl a ha
  · obtain ⟨h1, h2⟩ := h.pins k r hk
    exact ⟨h1, by simpa using h2⟩
  · intro j f hf
    rcases get j f hf with rfl | hf
    · trivial
    · exact h.ents j f hf
  · intro j f hf x hx
    simp only [List.length_set]
    rcases get j f hf with rfl | hf
    · cases hx
    · exact h.eids j f hf x hx
  · intro j k f f' hf hf' hl hl' hjk a b ha hb
    rcases get j f hf with rfl | hk
    · cases hl
    · rcases get k f' hf' with rfl | hk'
      · cases hl'
      · exact h.apart j k f f' hk hk' hl hl' hjk a b ha hb
end
end Go.X
