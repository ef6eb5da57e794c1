/- What is answered, for the caller; a function whose code was walked. Nothing here is about one program. -/
import Derived.Test.YtjjlcenmifcaeaaX14
namespace Go.X
open Go.RowKit Go.V

section
variable {T : Tab} {P : Program} {w w' : World} {S S' : List Nat} {φ φ' : Nat → RA} {w0 : World} {S0 : Ow} {F : AF T} {H : List (Ent T.U)} {F' : PF}
theorem nodupN_app : ∀ {l m : List Nat}, nodupN (l ++ m) = true → nodupN m = true ∧ ∀ i ∈ m, i ∉ l
  | [], m, h => ⟨h, fun i _ hi => by cases hi⟩
  | a :: l, m, h => by
    rw [List.cons_append, nodupN, Bool.and_eq_true, Bool.not_eq_true'] at h
    obtain ⟨h1, h2⟩ := nodupN_app h.2
    refine ⟨h1, fun i hi hm => ?_⟩
    rcases List.mem_cons.1 hm with rfl | hm
    · have := memN_iff.2 (List.mem_append.2 (.inr hi) : i ∈ l ++ m)
      rw [h.1] at this; cases this
    · exact h2 i hi hm
theorem rdRs_cons {Hc : List (Ent T.U)} {t s : RT} {r : List RT} {a : AV T.U} {as : List (AV T.U)} {y : denRs T (t :: s :: r)} (h : rdRs T Hc (t :: s :: r) (a :: as) = some y) : ∃ x z, rdR T Hc t a = some x ∧ rdRs T Hc (s :: r) as = some z ∧ (x, z) = y := by
  replace h : (match rdR T Hc t a, rdRs T Hc (s :: r) as with | some x, some y => some (x, y) | _, _ => none) = some y := h
  split at h
  · rename_i x z hx hz; exact ⟨x, z, hx, hz, Option.some.inj h⟩
  · cases h
theorem ret_all {m : Bool} {m0 : Nat} {Hc : List (Ent T.U)} {Fc : AF T} {Fc' : PF} {S0c : Ow} {S1c S1 : List Nat} {φc : Nat → RA} (hc : Sim T w S0c ⟨Fc, Hc⟩ Fc' w' S1c φc) (hu : Up T m w' S1c S1) (hin : ∀ b ∈ S1c, b ∈ S1) (hw : w0.heap.size ≤ w.heap.size)
    (hage : ∀ (i : Nat) (e : Ent T.U), m0 ≤ i → Hc[i]? = some e → e.live = true → ∀ a, (φc i).ad = some a → w.heap.size ≤ a.block) {ids : List Nat} {ios : List (TypeId × Ty)} (hty : ∀ (k : Nat) (e : TypeId) (t : Ty) (xs : List (den T.U t)), k < ids.length → Hc[k]? = some (.row e t xs) → szT T t = szT T (ios.getD k (0, .bool)).2) :
    ∀ {rs : List RT} (_ : m = true → scalRs T rs = true) (_ : partsOk ids.length rs = true) {as : List (AV T.U)} {us : List Value} {y : denRs T rs}, VRL T w' S1c φc as us → rdRs T Hc rs as = some y → nodupN (ownIds T rs as) = true → ∀ {used : List Nat}, (∀ i ∈ ownIds T rs as, i ∉ used ∧ m0 ≤ i) →
    ∀ {H : List (Ent T.U)} {φ : Nat → RA}, (∀ k i : Nat, ids[k]? = some i → RSame (φc k) (φ i) ∧ i < H.length) → Sim T w0 S0 ⟨F, H⟩ F' w' S1 φ → Fresh w Hc φc used H φ →
    ∃ φ1, Sim T w0 S0 ⟨F, H ++ entRs T rs y⟩ F' w' S1 φ1 ∧ VRL T w' S1 φ1 (avRs T ids ios H.length rs y) us ∧ (∀ i, i < H.length → φ1 i = φ i) ∧ ∀ i ∈ idsL (avRs T ids ios H.length rs y), i < (H ++ entRs T rs y).length := by
  intro rs
  induction rs with
  | nil =>
    intro hm hp as us y hv hr hn used hd H φ hi h hf
    match as, hr, us, hv with
    | [], _, [], _ => exact ⟨φ, by simpa [entRs] using h, trivial, fun _ _ => rfl, fun i hi => by cases hi⟩
    | _ :: _, hr, _, _ => cases hr
  | cons t q ih =>
    intro hm hp as us y hv hr hn used hd H φ hi h hf
    have hm1 : m = true → t.scal T = true := fun e => by have := hm e; unfold scalRs at this; simp only [Bool.and_eq_true] at this; exact this.1
    have hm2 : m = true → scalRs T q = true := fun e => by have := hm e; unfold scalRs at this; simp only [Bool.and_eq_true] at this; exact this.2
    have hp1 : ∀ k, t = .part k → k < ids.length := by
      rintro k rfl
      unfold partsOk at hp
      simp only [Bool.and_eq_true] at hp
      simpa [Nat.blt_eq] using hp.1
    have hp2 : partsOk ids.length q = true := by
      unfold partsOk at hp
      cases t <;> simp only [Bool.and_eq_true] at hp <;> first | exact hp | exact hp.2
    have hids : ∀ k, t = .part k → ∃ i, ids[k]? = some i ∧ RSame (φc k) (φ i) ∧ i < H.length ∧ ∀ (e : TypeId) (t : Ty) (xs : List (den T.U t)), Hc[k]? = some (.row e t xs) → szT T t = szT T (ios.getD k (0, .bool)).2 := by
      intro k hk
      have hlt := hp1 k hk
      have hg := List.getElem?_eq_getElem hlt
      exact ⟨_, hg, (hi k _ hg).1, (hi k _ hg).2, fun e t xs => hty k e t xs hlt⟩
    match as, hr, us, hv with
    | [], hr, _, _ => cases q <;> cases hr
    | a :: as, hr, v :: us, hv =>
      cases q with
      | nil =>
        cases as with
        | cons _ _ => cases hr
        | nil =>
          match us, hv with
          | [], hv =>
            obtain ⟨φ1, h1, h2, h3, h4, h5⟩ := ret_one (t := t) (ids := ids) (ios := ios) hc hu hin hw hage hm1 hv.1 hr (fun i hi => hd i (List.mem_append.2 (.inl hi))) hids h hf
            exact ⟨φ1, h1, ⟨h2, trivial⟩, h4, fun i hi => h5 i (by simpa [avRs, idsL] using hi)⟩
      | cons s r =>
        obtain ⟨x, z, hx, hz, rfl⟩ := rdRs_cons hr
        replace hn : nodupN (ownId T t a ++ ownIds T (s :: r) as) = true := hn
        replace hd : ∀ i ∈ ownId T t a ++ ownIds T (s :: r) as, i ∉ used ∧ m0 ≤ i := hd
        obtain ⟨hn1, hn2⟩ := nodupN_app hn
        obtain ⟨φ1, h1, h2, h3, h4, h5⟩ := ret_one (t := t) (ids := ids) (ios := ios) hc hu hin hw hage hm1 hv.1 hx (fun i hi => hd i (List.mem_append.2 (.inl hi))) hids h hf
        have hlen : (H ++ entR T t x).length = H.length + t.cnt := by cases t <;> simp [entR, RT.cnt]
        obtain ⟨φ2, g1, g2, g3, g4⟩ := ih hm2 hp2 hv.2 hz hn1 (used := ownId T t a ++ used) (fun i hi => ⟨fun hmem => by
          rcases List.mem_append.1 hmem with hmem | hmem
          · exact hn2 i hi hmem
          · exact (hd i (List.mem_append.2 (.inr hi))).1 hmem, (hd i (List.mem_append.2 (.inr hi))).2⟩) (H := H ++ entR T t x) (fun k i hk => ⟨(hi k i hk).1.trans (.of (h4 i (hi k i hk).2).symm), by have := (hi k i hk).2; rw [List.length_append]; omega⟩) h1 h3
        rw [List.append_assoc, hlen] at g4
        rw [List.append_assoc] at g1
        rw [hlen] at g2
        refine ⟨φ2, g1, ⟨h2.phi fun i hi => g3 i (h5 i hi), g2⟩, fun i hi => (g3 i (by rw [List.length_append]; omega)).trans (h4 i hi), fun i hi => ?_⟩
        replace hi : i ∈ (avR T ids ios H.length t x).ids ++ idsL (avRs T ids ios (H.length + t.cnt) (s :: r) z) := hi
        show i < (H ++ (entR T t x ++ entRs T (s :: r) z)).length
        rcases List.mem_append.1 hi with hi | hi
        · have := h5 i hi
          simp only [List.length_append] at this ⊢; omega
        · exact g4 i hi
theorem pack_rel {as : List (AV T.U)} {us : List Value} (h : VRL T w S φ as us) : VR T w S φ (packR T as) (packV us) := by
  match as, us, h with
  | [], [], h => exact ⟨#[], rfl, h⟩
  | [a], [v], h => exact h.1
  | a :: b :: r, u :: v :: s, h => exact ⟨(u :: v :: s).toArray, rfl, h⟩
theorem avRs_noEp {ids : List Nat} {ios : List (TypeId × Ty)} {rs : List RT} : ∀ {y : denRs T rs} {b : Nat}, ∀ a ∈ avRs T ids ios b rs y, notEp a = true := by
  induction rs with
  | nil => intro y b a ha; cases ha
  | cons t r ih =>
    intro y b a ha
    have one : ∀ (x : denRT T t), notEp (avR T ids ios b t x) = true := by
      intro x
      cases t with
      | val t => exact toAV_notEp t x
      | own e t => rfl
      | part k => rfl
    cases r with
    | nil => simp only [avRs, List.mem_singleton] at ha; subst ha; exact one _
    | cons s q =>
      simp only [avRs] at ha
      rcases List.mem_cons.1 ha with rfl | ha
      · exact one _
      · exact ih a ha
theorem packR_ok {ids : List Nat} {ios : List (TypeId × Ty)} {rs : List RT} {y : denRs T rs} {b : Nat} (hi : ∀ i ∈ idsL (avRs T ids ios b rs y), i < H.length) : okA H (packR T (avRs T ids ios b rs y)) := by
  have hne : notEp (packR T (avRs T ids ios b rs y)) = true := by
    unfold packR
    split
    · rename_i a hl; exact avRs_noEp a (by rw [hl]; simp)
    · rfl
  refine okA_notEp hne fun i h => hi i ?_
  unfold packR at h
  split at h
  · rename_i a hl; rw [hl, idsL]; exact List.mem_append.2 (.inl h)
  · rw [AV.ids] at h; exact h
theorem rdIo_spec {β : Type} {H1 : List (Ent T.U)} {B : Option β} : ∀ {ios : List (TypeId × Ty)} {k : Nat} {y : denIo T ios β}, rdIo T H1 B ios k = some y → B = some (lastIo T ios y) ∧ (entIo T ios y).length = ios.length ∧ ∀ j, j < ios.length → ∃ (xs : List (den T.U (ios.getD j (0, .bool)).2)), (entIo T ios y)[j]? = some (.row (ios.getD j (0, .bool)).1 (ios.getD j (0, .bool)).2 xs) ∧ H1[k + j]? = some (.row (ios.getD j (0, .bool)).1 (ios.getD j (0, .bool)).2 xs)
  | [], k, y, h => ⟨h, rfl, fun j hj => by simp at hj⟩
  | (e, t) :: r, k, y, h => by
    unfold rdIo at h
    split at h
    · rename_i xs z hx hz
      have h : (xs, z) = y := Option.some.inj h
      subst h
      obtain ⟨h1, h2, h3⟩ := rdIo_spec hz
      have hk : H1[k]? = some (.row e t xs) := by
        unfold rdIo.rdAt at hx
        split at hx
        · rename_i e' t' xs' hi
          split at hx
          · rename_i hb
            have := Nat.eq_of_beq_eq_true hb; subst this
            split at hx
            · rename_i ht
              subst ht
              have hx : xs' = xs := Option.some.inj hx
              subst hx
              exact hi
            · cases hx
          · cases hx
        · cases hx
      refine ⟨h1, by show (entIo T r z).length + 1 = r.length + 1; rw [h2], fun j hj => ?_⟩
      cases j with
      | zero => exact ⟨xs, rfl, hk⟩
      | succ j =>
        obtain ⟨ys, g1, g2⟩ := h3 j (by simpa using hj)
        exact ⟨ys, g1, by rw [show k + (j + 1) = k + 1 + j by omega]; exact g2⟩
    · cases h
/-- what is handed. -/
theorem rdPs_ios : ∀ {ps : List PT} {as : List (AV T.U)} {x : denPs T ps}, rdPs T H ps as = some x → (idsIn T ps as).length = (iosP ps).length ∧ (entPs T ps x).length = (iosP ps).length ∧
    ∀ k i, (idsIn T ps as)[k]? = some i → ∃ (e : TypeId) (t : Ty) (xs : List (den T.U t)), H[i]? = some (.row e t xs) ∧ (entPs T ps x)[k]? = some (.row e t xs) ∧ (e, t) = (iosP ps).getD k (0, .bool) := by
  have one : ∀ {t : PT} {a : AV T.U} {x : denPT T t}, rdIn T H t a = some x → (idsIn T [t] [a]).length = (iosP [t]).length ∧ (entP T t x).length = (iosP [t]).length ∧
      ∀ k i, (idsIn T [t] [a])[k]? = some i → ∃ (e : TypeId) (t' : Ty) (xs : List (den T.U t')), H[i]? = some (.row e t' xs) ∧ (entP T t x)[k]? = some (.row e t' xs) ∧ (e, t') = (iosP [t]).getD k (0, .bool) := by
    intro t a x h
    cases t with
    | val t => exact ⟨by cases a <;> rfl, rfl, fun k i hk => by cases a <;> simp [idsIn] at hk⟩
    | io e t =>
      cases a <;> try (cases h; done)
      rename_i i
      replace h : rdIn.rdOwnI T H e t (.own i) = some x := h
      unfold rdIn.rdOwnI at h
      simp only at h
      split at h
      · rename_i e' t' xs hi
        split at h
        · rename_i hb
          have := Nat.eq_of_beq_eq_true hb; subst this
          split at h
          · rename_i ht
            subst ht
            have h : xs = x := Option.some.inj h
            subst h
            refine ⟨rfl, rfl, fun k i0 hk => ?_⟩
            cases k with
            | zero => cases hk; exact ⟨_, _, xs, hi, rfl, rfl⟩
            | succ k => simp [idsIn] at hk
          · cases h
        · cases h
      · cases h
  have hcons : ∀ (t : PT) (q : List PT), iosP (t :: q) = iosP [t] ++ iosP q := by intro t q; cases t <;> rfl
  intro ps
  induction ps with
  | nil =>
    intro as x h
    cases as with
    | nil => exact ⟨rfl, rfl, fun k i hk => by simp [idsIn] at hk⟩
    | cons _ _ => cases h
  | cons t q ih =>
    intro as x h
    cases as with
    | nil => cases q <;> cases h
    | cons a as =>
      cases q with
      | nil =>
        cases as with
        | cons _ _ => cases h
        | nil => exact one h
      | cons s q =>
        have h : (match rdIn T H t a, rdPs T H (s :: q) as with | some x, some y => some (x, y) | _, _ => none) = some x := h
        split at h
        · rename_i x1 y1 h1 h2
          have h : (x1, y1) = x := Option.some.inj h
          subst h
          obtain ⟨a1, a2, a3⟩ := one h1
          obtain ⟨b1, b2, b3⟩ := ih h2
          rw [idsIn_cons, hcons]
          show _ ∧ (entP T t x1 ++ entPs T (s :: q) y1).length = _ ∧ ∀ k i, _ → ∃ (e : TypeId) (t' : Ty) (xs : List (den T.U t')), _ ∧ (entP T t x1 ++ entPs T (s :: q) y1)[k]? = _ ∧ _
          refine ⟨by rw [List.length_append, List.length_append, a1, b1], by rw [List.length_append, List.length_append, a2, b2], fun k i hk => ?_⟩
          by_cases hlt : k < (iosP [t]).length
          · rw [List.getElem?_append_left (by omega)] at hk
            obtain ⟨e, t', xs, g1, g2, g3⟩ := a3 k i hk
            exact ⟨e, t', xs, g1, by rw [List.getElem?_append_left (by omega)]; exact g2, by rw [List.getD_eq_getElem?_getD, List.getElem?_append_left hlt, ← List.getD_eq_getElem?_getD]; exact g3⟩
          · rw [List.getElem?_append_right (by omega), a1] at hk
            obtain ⟨e, t', xs, g1, g2, g3⟩ := b3 _ i hk
            exact ⟨e, t', xs, g1, by rw [List.getElem?_append_right (by omega), a2]; exact g2, by rw [List.getD_eq_getElem?_getD, List.getElem?_append_right (by omega), ← List.getD_eq_getElem?_getD]; exact g3⟩
        · cases h
theorem blksN_mem {b n : Nat} : b ∈ blksN φ n → ∃ k, k < n ∧ ∃ a, At (φ k) a ∧ a.block = b := by
  intro h
  unfold blksN at h
  obtain ⟨k, hk, hb⟩ := List.mem_flatMap.1 h
  exact ⟨k, List.mem_range.1 hk, mem_all.1 hb⟩
theorem Sim.grow (h : Sim T w0 S0 ⟨F, H⟩ F' w S φ) (hc : Chg [] w w') {S1 : List Nat} (h1 : ∀ b ∈ S, b ∈ S1) (h2 : ∀ b ∈ S1, b ∈ S ∨ (w.heap.size ≤ b ∧ b < w'.heap.size)) : Sim T w0 S0 ⟨F, H⟩ F' w' S1 φ := by
  have := h.io (Tc := []) hc (fun b hb _ _ => h1 b hb) h2 (ids := []) (es := []) rfl (by simp) (by simp) (by simp)
  simpa [setIo] using this
/-- rows that are handed: their other blocks (there are none) are forgotten. -/
theorem Sim.forget (h : Sim T w0 S0 ⟨F, H⟩ F' w S φ) (ids : List Nat) (hpl : ∀ i ∈ ids, ∀ e, H[i]? = some e → e.plain = true) : ∃ φ', (∀ i ∈ ids, (φ' i).xs = []) ∧ (∀ i, RSame (φ' i) (φ i)) ∧ Sim T w0 S0 ⟨F, H⟩ F' w S φ' := by
  let φ' : Nat → RA := fun i => if i ∈ ids then ⟨(φ i).ad, (φ i).n, (φ i).cap, []⟩ else φ i
  have hs : ∀ i, RSame (φ' i) (φ i) := fun i => by
    show RSame (if i ∈ ids then ⟨(φ i).ad, (φ i).n, (φ i).cap, []⟩ else φ i) (φ i)
    split
    · exact ⟨rfl, rfl, rfl⟩
    · exact .of rfl
  have hx : ∀ i ∈ ids, (φ' i).xs = [] := fun i hi => by
    show (if i ∈ ids then (⟨(φ i).ad, (φ i).n, (φ i).cap, []⟩ : RA) else φ i).xs = []
    rw [if_pos hi]
  have hat : ∀ {i : Nat} {a : Addr}, At (φ' i) a → At (φ i) a := fun {i a} ha => by
    rcases ha with ha | ha
    · exact .inl ((hs i).1 ▸ ha)
    · by_cases hi : i ∈ ids
      · rw [hx i hi] at ha; cases ha
      · have e : φ' i = φ i := if_neg hi
        exact .inr (e ▸ ha)
  refine ⟨φ', hx, hs, fun i a ha => ?_, h.ids, h.chg, h.own, h.ex, fun i e he hl a ha => h.lives i e he hl a (hat ha), fun k r hk => ⟨(hs k).trans (h.pins k r hk).1, (h.pins k r hk).2⟩, fun i e he => ?_, h.eids, fun i j e e' he he' hl hl' hij a b ha hb => h.apart i j e e' he he' hl hl' hij a b (hat ha) (hat hb)⟩
  · obtain ⟨v, h1, h2⟩ := h.fr i a ha
    exact ⟨v, h1, h2.phiS fun j _ => hs j⟩
  · have := (h.ents i e he).renS (ρ := id) (φ' := φ') (j := i) (hs i) (by
      by_cases hi : i ∈ ids
      · exact .inl (hpl i hi e he)
      · exact .inr (congrArg RA.xs (if_neg hi : φ' i = φ i))) fun k _ => hs k
    cases e with
    | drow e d fe xs op => simpa only [Ent.ren, renQ_id] using this
    | pmap k be d m op => simpa only [Ent.ren, renP_id] using this
    | blk e cs => simpa only [Ent.ren, renL_id] using this
    | map k es => simpa only [Ent.ren, renM_id] using this
    | row e t xs => exact this
    | tmap k t m => exact this
    | gone => trivial
theorem soundCall_of {f : FuncId} {sp : FnSpec T} (hok : FnOk T P f sp) : SoundCall T P f sp.toCall := by
  intro R as H K Kp r hr w0 S0 F F' w S φ h vs hvs has
  simp only [FnSpec.toCall] at hr
  split at hr
  · rename_i x hx
    split at hr
    · rename_i hb
      simp only [Bool.and_eq_true] at hb
      obtain ⟨hn, hpo⟩ := hb
      obtain ⟨y, hy, hK⟩ := obind_some hr
      obtain ⟨i1, i2, i3⟩ := rdPs_ios hx
      generalize hids : idsIn T sp.ps as = ids at *
      obtain ⟨φ', hxs, hrs, h⟩ := h.forget ids fun i hi e he => by
        obtain ⟨k, hk⟩ := List.mem_iff_getElem?.1 hi
        obtain ⟨_, _, _, p1, _⟩ := i3 k i hk
        rw [p1] at he; cases he; rfl
      replace hvs : VRL T w S φ' as vs := by
        have := VRL.renS T (ρ := id) (φ' := φ') (fun i _ => hrs i) hvs
        rwa [renL_id] at this
      clear hrs
      revert φ'
      intro φ hxs h hvs
      -- where the one who is called sees them
      let φc : Nat → RA := fun k => φ (ids.getD k 0)
      have hφc : ∀ k i, ids[k]? = some i → φc k = φ i := by
        intro k i hk
        show φ (ids.getD k 0) = φ i
        rw [List.getD_eq_getElem?_getD, hk]; rfl
      have hgk : ∀ k, k < (iosP sp.ps).length → ∃ i, ids[k]? = some i := fun k hk => ⟨_, List.getElem?_eq_getElem (by omega)⟩
      have hap : ∀ j k, j < (iosP sp.ps).length → k < (iosP sp.ps).length → j ≠ k → ∀ a b, At (φc j) a → At (φc k) b → a.block ≠ b.block := by
        intro j k hj hk hjk a b ha hb
        obtain ⟨i, gi⟩ := hgk j hj
        obtain ⟨i', gi'⟩ := hgk k hk
        rw [hφc j i gi] at ha; rw [hφc k i' gi'] at hb
        obtain ⟨_, _, _, e1, _⟩ := i3 j i gi
        obtain ⟨_, _, _, e2, _⟩ := i3 k i' gi'
        exact h.apart i i' _ _ e1 e2 rfl rfl (fun e => hjk (by subst e; exact nodupN_inj hn gi gi')) a b ha hb
      have hsin : ∀ k, k < (iosP sp.ps).length → ∀ a, At (φc k) a → a.block ∈ S := by
        intro k hk a ha
        obtain ⟨i, gi⟩ := hgk k hk
        rw [hφc k i gi] at ha
        obtain ⟨_, _, _, e1, _⟩ := i3 k i gi
        exact liveAt h e1 rfl ha
      have hent : ∀ k e, (entPs T sp.ps x)[k]? = some e → EntR T w S φc k e := by
        intro k e hk
        have hlt := (List.getElem?_eq_some_iff.1 hk).1
        obtain ⟨i, gi⟩ := hgk k (by omega)
        obtain ⟨e1, t1, xs, g1, g2, _⟩ := i3 k i gi
        rw [g2] at hk; simp only [Option.some.injEq] at hk; subst hk
        have := h.ents i _ g1
        simp only [EntR, hφc k i gi]
        exact this
      refine (hok x y hy w S φc vs (rdPs_rel hx hvs (k := 0) fun j i hj => by rw [hids] at hj; rw [Nat.zero_add]; exact hφc j i hj) (fun b hb => (h.own b hb).2) hent hsin hap).mono fun e w' hR => ?_
      cases e with
      | returned v =>
        obtain ⟨F1, H1, F1', S1, φ1, as1, us, g1, g2, rfl, g4, g5, g6⟩ := hR
        obtain ⟨q1, q2, q3⟩ := rdIo_spec g4
        have hpin : ∀ k, k < (iosP sp.ps).length → RSame (φ1 k) (φc k) := by
          intro k hk
          exact (g1.pins k (φc k) (by simp [hk])).1
        have hS1 : ∀ b ∈ S1, b ∈ S ∨ (w.heap.size ≤ b ∧ b < w'.heap.size) := fun b hb => by
          obtain ⟨p1, p2⟩ := g1.own b hb
          rcases p1 with p1 | p1
          · exact .inl p1
          · exact .inr ⟨p1, p2⟩
        have hg : Sim T w0 S0 ⟨F, setIo T H ids (entIo T (iosP sp.ps) y)⟩ F' w' S1 φ := by
          refine h.io g1.chg g1.ex hS1 (by rw [q2, i1]) ?_ (fun i hi a ha => by
            obtain ⟨k, gk⟩ := List.mem_iff_getElem?.1 hi
            have hlt : k < (iosP sp.ps).length := by have := (List.getElem?_eq_some_iff.1 gk).1; omega
            obtain ⟨ys, p4, p5⟩ := q3 k hlt
            rw [Nat.zero_add] at p5
            rcases ha with ha | ha
            · exact (g1.lives k _ p5 rfl a (.inl ((hpin k hlt).1.trans (by rw [hφc k i gk]; exact ha)))).1
            · rw [hxs i hi] at ha; cases ha) ?_
          · intro b hb
            obtain ⟨k, hk, a, ha, rfl⟩ := blksN_mem hb
            obtain ⟨i, gi⟩ := hgk k hk
            exact ⟨i, List.mem_of_getElem? gi, a, by rw [← hφc k i gi]; exact ha, rfl⟩
          · intro k i hk
            obtain ⟨e1, t1, xs, p1, p2, p3⟩ := i3 k i hk
            have hlt : k < (iosP sp.ps).length := by have := (List.getElem?_eq_some_iff.1 hk).1; omega
            obtain ⟨ys, p4, p5⟩ := q3 k hlt
            have e1' : e1 = ((iosP sp.ps).getD k (0, .bool)).1 := congrArg Prod.fst p3
            have t1' : t1 = ((iosP sp.ps).getD k (0, .bool)).2 := congrArg Prod.snd p3
            subst t1'; subst e1'
            refine ⟨_, _, xs, ys, p1, p4, ?_⟩
            rw [Nat.zero_add] at p5
            have := (g1.ents k _ p5).renS (ρ := id) (φ' := φ) (j := i) (by rw [← hφc k i hk]; exact (hpin k hlt).symm) (.inl rfl) (fun q hq => by cases hq)
            exact this
        obtain ⟨φ2, k1, k2, _, k4⟩ := ret_all (m := false) (m0 := (iosP sp.ps).length) (S1 := S1) (ids := ids) (ios := iosP sp.ps) g1 (fun t x v _ h => h) (fun _ h => h) h.chg.size (fun i e hi he hl a ha => by
          rcases (g1.lives i e he hl a (.inl ha)).2 with hm | hm
          · obtain ⟨k, hk, a', ha', hbe⟩ := blksN_mem hm
            obtain ⟨ys, p4, p5⟩ := q3 k hk
            rw [Nat.zero_add] at p5
            exact absurd hbe (g1.apart k i _ e p5 he rfl hl (by omega) a' a (by
              rcases ha' with ha' | ha'
              · exact .inl ((hpin k hk).1.trans ha')
              · obtain ⟨i', gi'⟩ := hgk k hk
                rw [hφc k i' gi', hxs i' (List.mem_of_getElem? gi')] at ha'; cases ha') (.inl ha))
          · exact hm) (fun k e t xs hk hx => by
          obtain ⟨ys, p4, p5⟩ := q3 k (by omega)
          rw [Nat.zero_add] at p5
          rw [hx] at p5
          simp only [Option.some.injEq, Ent.row.injEq] at p5
          rw [p5.2.1]) (fun e => by cases e) hpo g2 q1 g5 (used := []) (fun i hi => ⟨fun hm => (by cases hm), g6 i hi⟩) (H := setIo T H ids (entIo T (iosP sp.ps) y)) (φ := φ) (fun k i hk => by
          have hlt : k < (iosP sp.ps).length := by have := (List.getElem?_eq_some_iff.1 hk).1; omega
          obtain ⟨_, _, _, p1, _⟩ := i3 k i hk
          exact ⟨(hpin k hlt).trans (.of (hφc k i hk)), by rw [setIo_len]; exact (List.getElem?_eq_some_iff.1 p1).1⟩) hg (by
          intro j e hj hl a ha
          rcases setIo_get _ _ _ (by rw [q2, i1]) hj with ⟨k, p1, p2⟩ | ⟨_, p2⟩
          · obtain ⟨_, _, _, p3, _⟩ := i3 k j p1
            exact .inl (h.own _ (liveAt h p3 rfl ha)).2
          · exact .inl (h.own _ (liveAt h p2 hl ha)).2)
        rw [setIo_len] at k2 k4
        exact ⟨_, _, hK, S1, φ2, k1, pack_rel k2, packR_ok k4⟩
      | panicked ch => exact hR.elim
      | outgrown => exact hR.elim
    · cases hr
  · split at hr
    · rename_i hb
      simp only [Bool.and_eq_true] at hb
      obtain ⟨hsc, hpo⟩ := hb
      obtain ⟨x, hx, hv, hio, hent⟩ := rdPsF_rel hr (fun i _ en hi _ => h.ents i en hi) hvs φ 0
      obtain ⟨y, hy, hK⟩ := obind_some hx
      have hio0 : (iosP sp.ps).length = 0 := by rw [hio]; rfl
      refine (hok x y hy w [] φ vs hv (fun b hb => by cases hb) (fun k e hk => by rw [hent] at hk; simp at hk) (fun k hk => by omega) (fun j k hj => by omega)).mono fun e w' hR => ?_
      cases e with
      | returned v =>
        obtain ⟨F1, H1, F1', S1, φ1, as1, us, g1, g2, rfl, g4, g5, g6⟩ := hR
        obtain ⟨q1, q2, q3⟩ := rdIo_spec g4
        have hchg : Chg [] w w' := by
          have := g1.chg
          rw [show blksN φ (iosP sp.ps).length = [] by rw [hio0]; rfl] at this
          exact this
        have hg := h.grow hchg (S1 := S ++ S1) (fun b hb => List.mem_append.2 (.inl hb)) (fun b hb => by
          rcases List.mem_append.1 hb with hb | hb
          · exact .inl hb
          · obtain ⟨q1, q2⟩ := g1.own b hb
            rcases q1 with q1 | q1
            · cases q1
            · exact .inr ⟨q1, q2⟩)
        obtain ⟨φ2, k1, k2, _, k4⟩ := ret_all (m := true) (m0 := 0) (S1 := S ++ S1) (ids := []) (ios := []) g1 (fun t x v ht hcr => by
          have ht := ht rfl
          cases hcr with
          | int k x => exact .int k x
          | bool b => exact .bool b
          | str s => exact .str s
          | list e xs ad cap u h1 h2 h3 h4 h5 => cases ht
          | nl e xs ad cap h1 h2 => cases ht) (fun b hb => List.mem_append.2 (.inr hb)) h.chg.size (fun i e _ he hl a ha => by
          rcases (g1.lives i e he hl a (.inl ha)).2 with hm | hm
          · rw [show blksN φ (iosP sp.ps).length = [] by rw [hio0]; rfl] at hm; cases hm
          · exact hm) (fun k e t xs hk => by simp at hk) (fun _ => hsc) hpo g2 q1 g5 (used := []) (fun i _ => ⟨fun hm => (by cases hm), Nat.zero_le _⟩) (fun k i hk => by simp at hk) hg (by
          intro j e hj hl a ha
          exact .inl (h.own _ (liveAt h hj hl ha)).2)
        exact ⟨_, _, hK, S ++ S1, φ2, k1, pack_rel k2, packR_ok k4⟩
      | panicked ch => exact hR.elim
      | outgrown => exact hR.elim
    · cases hr
def valRs (T : Tab) : (rs : List RT) → denRs T rs → List Value
  | [], _ => []
  | [t], x => [valR t x]
  | t :: s :: r, x => valR t x.1 :: valRs T (s :: r) x.2
where
  valR : (t : RT) → denRT T t → Value
    | .val t, x => valT T t x
    | _, _ => undef
theorem cellV_rel : ∀ {cs : List (Cell T.U)}, (∀ c ∈ cs, c.t.scal = true) → VRL T w S φ (cs.map .cell) (cs.map cellV)
  | [], _ => trivial
  | ⟨t, x⟩ :: r, h => by
    refine ⟨?_, cellV_rel fun c hc => h c (List.mem_cons_of_mem _ hc)⟩
    have := h _ (List.mem_cons_self ..)
    cases t with
    | int k => exact CR.int _ _
    | bool => exact CR.bool _
    | str => exact CR.str _
    | list e => cases this
    | nl e => cases this
    | user i => cases this
theorem cellV_eq : ∀ {cs : List (Cell T.U)} {vs : List Value}, (∀ c ∈ cs, c.t.scal = true) → VRL T w S φ (cs.map .cell) vs → vs = cs.map cellV
  | [], [], _, _ => rfl
  | [], _ :: _, _, h => h.elim
  | _ :: _, [], _, h => h.elim
  | ⟨t, x⟩ :: r, v :: vs, h, hv => by
    have h1 := h _ (List.mem_cons_self ..)
    rw [List.map_cons, ← cellV_eq (fun c hc => h c (List.mem_cons_of_mem _ hc)) hv.2]
    congr 1
    cases t with
    | int k => exact cint_rel hv.1
    | bool => exact cbool_rel hv.1
    | str => exact cstr_rel hv.1
    | list e => cases h1
    | nl e => cases h1
    | user i => cases h1
theorem valT_rel {t : Ty} (h : scalT T t = true) (x : den T.U t) : VR T w S φ (toAV T t x) (valT T t x) := by
  cases t with
  | user i => exact ⟨_, rfl, cellV_rel (T.scals i x h)⟩
  | int k => exact CR.int _ _
  | bool => exact CR.bool _
  | str => exact CR.str _
  | list e => cases h
  | nl e => cases h
theorem valT_eq {t : Ty} (h : scalT T t = true) {x : den T.U t} {v : Value} (hv : VR T w S φ (toAV T t x) v) : v = valT T t x := by
  cases t with
  | user i =>
    obtain ⟨vs, rfl, h2⟩ := hv
    have := cellV_eq (T.scals i x h) h2
    show Value.agg vs = Value.agg (List.map cellV (T.cells i x)).toArray
    rw [← this]
  | int k => exact cint_rel hv
  | bool => exact cbool_rel hv
  | str => exact cstr_rel hv
  | list e => cases h
  | nl e => cases h
theorem qRs_avs : ∀ {rs : List RT}, qRs T rs = true → ∀ {y : denRs T rs} {ids : List Nat} {ios : List (TypeId × Ty)} {b : Nat}, VRL T w S φ (avRs T ids ios b rs y) (valRs T rs y) ∧ idsL (avRs T ids ios b rs y) = [] := by
  intro rs
  induction rs with
  | nil => intro h y ids ios b; exact ⟨trivial, rfl⟩
  | cons t q ih =>
    intro h y ids ios b
    cases t with
    | own e t => cases h
    | part k => cases h
    | val t =>
      cases q with
      | nil =>
        have ht : scalT T t = true := by simpa [qRs] using h
        refine ⟨⟨valT_rel ht y, trivial⟩, ?_⟩
        exact List.append_eq_nil_iff.2 ⟨toAV_ids (T := T) t y, rfl⟩
      | cons s r =>
        unfold qRs at h
        simp only [Bool.and_eq_true] at h
        obtain ⟨h1, h2⟩ := ih h.2 (y := y.2) (ids := ids) (ios := ios) (b := b + RT.cnt (.val t))
        refine ⟨⟨valT_rel h.1 y.1, h1⟩, ?_⟩
        exact List.append_eq_nil_iff.2 ⟨toAV_ids (T := T) t y.1, h2⟩
theorem qRs_det {w1 : World} {S1 : List Nat} {φ1 : Nat → RA} {H1 : List (Ent T.U)} : ∀ {rs : List RT}, qRs T rs = true → ∀ {y : denRs T rs} {as : List (AV T.U)} {us : List Value}, rdRs T H1 rs as = some y → VRL T w1 S1 φ1 as us → us = valRs T rs y := by
  intro rs
  induction rs with
  | nil =>
    intro h y as us hr hv
    match as, hr, us, hv with
    | [], _, [], _ => rfl
    | _ :: _, hr, _, _ => cases hr
  | cons t q ih =>
    intro h y as us hr hv
    cases t with
    | own e t => cases h
    | part k => cases h
    | val t =>
      match as, hr, us, hv with
      | [], hr, _, _ => cases q <;> cases hr
      | a :: as, hr, v :: us, hv =>
        cases q with
        | nil =>
          have ht : scalT T t = true := by simpa [qRs] using h
          cases as with
          | cons _ _ => cases hr
          | nil =>
            match us, hv with
            | [], hv => exact congrArg (fun z => [z]) (valT_eq ht (ofAV_rel (t := t) hr hv.1 φ1))
        | cons s r =>
          unfold qRs at h
          simp only [Bool.and_eq_true] at h
          obtain ⟨x, z, hx, hz, rfl⟩ := rdRs_cons hr
          show v :: us = valT T t x :: valRs T (s :: r) z
          rw [← ih h.2 hz hv.2, ← valT_eq h.1 (ofAV_rel (t := t) hx hv.1 φ1)]
/-- what was handed, in a world in which it is as it was. -/
theorem later {as : List (AV T.U)} {w1 : World} (h : Sim T w0 S0 ⟨F, H⟩ F' w S φ) (hc : Chg S w w1) (hsm : Same φ (idsL as) w w1) : RowsR T w1 S φ H (idsL as) :=
   rows_same h hc hsm fun i hi => hi
theorem soundQ_of {f : FuncId} {sp : FnSpec T} (hok : FnOk T P f sp) : SoundQ T P f sp.toCall := by
  intro R as H K r hr w0 S0 F F' w S φ h vs hvs has
  simp only [FnSpec.toCall] at hr
  split at hr
  · rename_i hq
    obtain ⟨x, hx, hdet⟩ := rdPsF_det hr
    obtain ⟨y, hy, hK⟩ := obind_some hx
    obtain ⟨q1, q2⟩ := qRs_avs (w := w) (S := S) (φ := φ) hq (y := lastIo T (iosP sp.ps) y) (ids := []) (ios := []) (b := 0)
    refine ⟨_, _, hK, pack_rel q1, packR_ok (by rw [q2]; intro i hi; cases hi), fun w1 hc hsm => ?_⟩
    obtain ⟨x', hx', hv, hio, hent⟩ := rdPsF_rel (w := w1) (K := some) (by rw [hdet]) (later h hc hsm) (hvs.chg T hc (fun _ h => h) fun b hb => .inl hb) φ 0
    have hx' := Option.some.inj hx'; subst hx'
    have hio0 : (iosP sp.ps).length = 0 := by rw [hio]; rfl
    refine (hok _ y hy w1 [] φ vs hv (fun b hb => by cases hb) (fun k e hk => by rw [hent] at hk; simp at hk) (fun k hk => by omega) (fun j k hj => by omega)).mono fun e w' hR => ?_
    cases e with
    | returned v =>
      obtain ⟨F1, H1, F1', S1, φ1, as1, us, g1, g2, rfl, g4, g5, g6⟩ := hR
      have hchg : Chg [] w1 w' := by
        have := g1.chg
        rw [show blksN φ (iosP sp.ps).length = [] by rw [hio0]; rfl] at this
        exact this
      exact ⟨hchg, by rw [qRs_det hq (rdIo_spec g4).1 g2]⟩
    | panicked ch => exact hR.elim
    | outgrown => exact hR.elim
  · cases hr
theorem detC_of (sp : FnSpec T) : DetC sp.toCall := by
  intro R as H K Kp r hr
  simp only [FnSpec.toCall] at hr
  split at hr
  · rename_i x hx
    split at hr
    · rename_i hb
      obtain ⟨y, hy, hK⟩ := obind_some hr
      obtain ⟨i1, i2, i3⟩ := rdPs_ios hx
      refine .inl ⟨_, _, hK, ?_, fun K' Kp' => by simp only [FnSpec.toCall, hx, hb, hy, obind]⟩
      have hw : (FnSpec.toCall sp).wr as H = idsIn T sp.ps as := by simp only [FnSpec.toCall, hx]
      rw [hw]
      have hlen : (entIo T (iosP sp.ps) (sp.g x |>.get (by rw [hy]; rfl))).length = (idsIn T sp.ps as).length := by
        have : ∀ (ios : List (TypeId × Ty)) {β : Type} (y : denIo T ios β), (entIo T ios y).length = ios.length := by
          intro ios
          induction ios with
          | nil => intro β y; rfl
          | cons p r ih => intro β y; exact congrArg (· + 1) (ih y.2)
        rw [this, i1]
      have hg : (sp.g x |>.get (by rw [hy]; rfl)) = y := by simp [hy]
      rw [hg] at hlen
      have hrow : ∀ (ios : List (TypeId × Ty)) {β : Type} (y : denIo T ios β) (k : Nat) (f : Ent T.U), (entIo T ios y)[k]? = some f → ∃ xs, f = .row (ios.getD k (0, .bool)).1 (ios.getD k (0, .bool)).2 xs := by
        intro ios
        induction ios with
        | nil => intro β y k f h; simp [entIo] at h
        | cons p r ih =>
          intro β y k f h
          cases k with
          | zero =>
            have h : some (Ent.row p.1 p.2 y.1) = some f := h
            simp only [Option.some.injEq] at h; subst h
            exact ⟨y.1, rfl⟩
          | succ k =>
            have h : (entIo T r y.2)[k]? = some f := h
            obtain ⟨xs, h1⟩ := ih y.2 k f h
            exact ⟨xs, h1⟩
      refine ⟨by rw [List.length_append, setIo_len]; omega, fun e he hn => ?_, fun e ty t ys he h => ?_⟩
      · rw [List.getElem?_append_left (by rw [setIo_len]; exact he)]
        have hsome : ∃ f, (setIo T H (idsIn T sp.ps as) (entIo T (iosP sp.ps) y))[e]? = some f := ⟨_, List.getElem?_eq_getElem (by rw [setIo_len]; exact he)⟩
        obtain ⟨f, hf⟩ := hsome
        rcases setIo_get _ _ H hlen hf with ⟨k, g1, _⟩ | ⟨_, g2⟩
        · exact absurd (List.mem_of_getElem? g1) hn
        · rw [hf, g2]
      · rw [List.getElem?_append_left (by rw [setIo_len]; exact he)] at h
        rcases setIo_get _ _ H hlen h with ⟨k, g1, g2⟩ | ⟨_, g2⟩
        · obtain ⟨e1, t1, xs, p1, p2, p3⟩ := i3 k e g1
          obtain ⟨zs, q1⟩ := hrow _ y k _ g2
          simp only [Ent.row.injEq] at q1
          have e1 : e1 = ty := (congrArg Prod.fst p3).trans q1.1.symm
          have e2 : t1 = t := (congrArg Prod.snd p3).trans q1.2.1.symm
          subst e1; subst e2
          exact ⟨xs, p1⟩
        · exact ⟨ys, g2⟩
    · cases hr
  · rename_i hx
    split at hr
    · rename_i hb
      obtain ⟨x, h1, hdet⟩ := rdPsF_det hr
      obtain ⟨y, hy, hK⟩ := obind_some h1
      exact .inl ⟨_, _, hK, .app, fun K' Kp' => by simp only [FnSpec.toCall, hx, hb, hdet, hy, obind]⟩
    · cases hr
/-! ### A function's code -/
theorem argFA_get : ∀ {as : List (AV T.U)} {vs : List Value} {i j : Nat} {a : AV T.U}, VRL T w S φ as vs → (argFA T as i).get T j = some a → ∃ v, (argF vs i).get j = some v ∧ VR T w S φ a v
  | [], [], _, _, _, _, h => by simp [argFA, AF.get] at h
  | [], _ :: _, _, _, _, h, _ => h.elim
  | _ :: _, [], _, _, _, h, _ => h.elim
  | b :: r, v :: s, i, j, a, h, hg => by
    simp only [argFA, AF.get] at hg
    simp only [argF, PF.get]
    split at hg
    · rename_i hb
      simp only [Option.some.injEq] at hg; subst hg
      exact ⟨v, by simp only [hb], h.1⟩
    · rename_i hb
      simp only [hb]
      exact argFA_get h.2 hg
theorem argFA_ids : ∀ {as : List (AV T.U)} {i j : Nat} {a : AV T.U}, (argFA T as i).get T j = some a → a ∈ as
  | [], _, _, _, h => by simp [argFA, AF.get] at h
  | b :: r, i, j, a, hg => by
    simp only [argFA, AF.get] at hg
    split at hg
    · simp only [Option.some.injEq] at hg; subst hg; exact List.mem_cons_self ..
    · exact List.mem_cons_of_mem _ (argFA_ids hg)
theorem toAV_ok {t : Ty} (x : den T.U t) : okA H (toAV T t x) := okA_notEp (toAV_notEp t x) (by rw [toAV_ids]; intro i hi; cases hi)
theorem argsL_ok : ∀ {ps : List PT} {x : denPs T ps} {k : Nat} {H : List (Ent T.U)}, k + (iosP ps).length ≤ H.length → ∀ a ∈ argsL T k ps x, okA H a := by
  have one : ∀ {t : PT} {x : denPT T t} {k : Nat} {H : List (Ent T.U)}, k + t.cnt ≤ H.length → okA H (avP T k t x) := by
    intro t x k H h
    cases t with
    | val t => exact toAV_ok (t := t) x
    | io e t => exact ⟨fun i hi => by simp [avP, AV.ids] at hi; subst hi; simp [PT.cnt] at h; omega, trivial⟩
  have hcons : ∀ (t : PT) (q : List PT), (iosP (t :: q)).length = t.cnt + (iosP q).length := by
    intro t q; cases t <;> simp [iosP, PT.cnt]; omega
  intro ps
  induction ps with
  | nil => intro x k H _ a h; cases h
  | cons t q ih =>
    intro x k H hk a h
    rw [hcons] at hk
    cases q with
    | nil => simp only [argsL, List.mem_singleton] at h; subst h; exact one (by simpa [iosP] using hk)
    | cons s r =>
      simp only [argsL] at h
      rcases List.mem_cons.1 h with rfl | h
      · exact one (by omega)
      · exact ih (by omega) a h
theorem argsL_len : ∀ {ps : List PT} {x : denPs T ps} {k : Nat}, (argsL T k ps x).length = ps.length
  | [], _, _ => rfl
  | [_], _, _ => rfl
  | _ :: s :: r, x, k => by simp only [argsL, List.length_cons]; rw [argsL_len]; rfl
theorem entPs_len : ∀ {ps : List PT} {x : denPs T ps}, (entPs T ps x).length = (iosP ps).length := by
  intro ps
  induction ps with
  | nil => intro x; rfl
  | cons t q ih =>
    intro x
    cases q with
    | nil => cases t <;> rfl
    | cons s r =>
      show (entP T t x.1 ++ entPs T (s :: r) x.2).length = _
      rw [List.length_append, ih]
      cases t <;> simp [entP, iosP]; omega
theorem entPs_row : ∀ {ps : List PT} {x : denPs T ps} {e : Ent T.U}, e ∈ entPs T ps x → e.cellIds = [] := by
  have one : ∀ {t : PT} {x : denPT T t} {e : Ent T.U}, e ∈ entP T t x → e.cellIds = [] := by
    intro t x e h
    cases t with
    | val t => cases h
    | io e' t => simp only [entP, List.mem_singleton] at h; subst h; rfl
  intro ps
  induction ps with
  | nil => intro x e h; cases h
  | cons t q ih =>
    intro x e h
    cases q with
    | nil => exact one h
    | cons s r =>
      have h : e ∈ entP T t x.1 ++ entPs T (s :: r) x.2 := h
      rcases List.mem_append.1 h with h | h
      · exact one h
      · exact ih h
theorem resA_run {F1' : PF} {st : St T} (h : Sim T w0 S0 st F1' w S φ) {n : Nat} {ds : List Deferred} {a : Act} (ha : Fr n ds F1' a) : ∀ {l : List ResultVar} {as : List (AV T.U)}, resA T P st l = some as →
    ∃ us, VRL T w S φ as us ∧ ∀ {f : ResultVar → Sem Value}, (∀ t, f (.tmp t) = Pure.pure (a.tmps.getD t undef)) → (∀ c t, f (.cell c t) = (do loadVar t (← asAddr (a.tmps.getD c undef)))) → (l.mapM f).run P w = .ok us w
  | [], as, hr => by simp only [resA, Option.some.injEq] at hr; subst hr; exact ⟨[], trivial, fun _ _ => rfl⟩
  | .tmp t :: r, as, hr => by
    unfold resA at hr
    split at hr
    · rename_i b l hb hl
      simp only [Option.some.injEq] at hr; subst hr
      obtain ⟨v, h1, h2⟩ := h.fr t b hb
      obtain ⟨us, h4, h3⟩ := resA_run h ha hl
      refine ⟨v :: us, ⟨h2, h4⟩, fun hf1 hf2 => ?_⟩
      have e := (ha.val t v h1).1
      simp only [List.mapM_cons, hf1, Sem.run_bind, Sem.run_pure, Result.andThen_ok, e]
      rw [h3 hf1 hf2]; rfl
    · cases hr
  | .cell c t :: r, as, hr => by
    unfold resA at hr
    split at hr
    · rename_i i o l hb hl
      split at hr
      · rename_i e cs hi
        split at hr
        · rename_i b hlo
          simp only [Option.some.injEq] at hr; subst hr
          obtain ⟨v, h1, g, h2, rfl⟩ := h.fr c _ hb
          obtain ⟨g', cv, h5, h6, _, h7⟩ := h.ents i _ hi
          rw [h2] at h5; simp only [Option.some.injEq, Addr.mk.injEq, and_true] at h5; subst h5
          obtain ⟨v, h8, h9⟩ := ldvB_of h7 hlo
          obtain ⟨us, h4, h3⟩ := resA_run h ha hl
          refine ⟨v :: us, ⟨h9, h4⟩, fun hf1 hf2 => ?_⟩
          have e := (ha.val c _ h1).1
          simp only [List.mapM_cons, hf2, Sem.run_bind, Result.andThen_ok, e, asAddr, Sem.run_pure, run_loadVar_ldv h6 h8]
          rw [h3 hf1 hf2]; rfl
        · cases hr
      · cases hr
    · cases hr
theorem results_run {fn : Func} {F1' : PF} {st : St T} (h : Sim T w0 S0 st F1' w S φ) {n : Nat} {ds : List Deferred} {a : Act} (ha : Fr n ds F1' a) {as : List (AV T.U)} (hr : resA T P st fn.results.toList = some as) : ∃ us, (results fn a.tmps).run P w = .ok (packV us) w ∧ VRL T w S φ as us := by
  obtain ⟨us, h2, h1⟩ := resA_run (P := P) h ha hr
  refine ⟨us, ?_, h2⟩
  unfold results
  rw [Array.mapM_eq_mapM_toList]
  simp only [Sem.run_bind, Sem.run_map]
  rw [h1 (fun _ => rfl) (fun _ _ => rfl)]
  simp only [Result.andThen_ok]
  match us with
  | [] => rfl
  | [v] => rfl
  | u :: v :: r =>
    have : (u :: v :: r).toArray.size ≠ 1 := by simp
    simp only [this, dite_false]
    rfl
theorem fixR_res {st : St T} {F1' : PF} {S : List Nat} {φ : Nat → RA} {S0 : Ow} {w0 w : World} (h : Sim T w0 S0 st F1' w S φ) : ∀ {l : List ResultVar} {as : List (AV T.U)}, resA T P st l = some as → ∀ i ∈ idsL as, i < st.H.length
  | [], as, hr, i, hi => by simp only [resA, Option.some.injEq] at hr; subst hr; cases hi
  | .tmp t :: r, as, hr, i, hi => by
    unfold resA at hr
    split at hr <;> try (cases hr; done)
    rename_i b l hb hl
    simp only [Option.some.injEq] at hr; subst hr
    rw [idsL] at hi
    rcases List.mem_append.1 hi with hi | hi
    · exact (h.ids t b hb).1 i hi
    · exact fixR_res h hl i hi
  | .cell c t :: r, as, hr, i, hi => by
    unfold resA at hr
    split at hr <;> try (cases hr; done)
    rename_i i0 o l hb hl
    split at hr <;> try (cases hr; done)
    rename_i e cs hc
    split at hr <;> try (cases hr; done)
    rename_i b hlo
    simp only [Option.some.injEq] at hr; subst hr
    rw [idsL] at hi
    rcases List.mem_append.1 hi with hi | hi
    · exact h.eids i0 _ hc i (loadB_ids hlo i hi)
    · exact fixR_res h hl i hi
theorem Sim.noF {st : St T} (h : Sim T w0 S0 st F' w S φ) : Sim T w0 S0 ⟨[], st.H⟩ F' w S φ :=
  ⟨fun i a ha => by simp [AF.get] at ha, fun i a ha => by simp [AF.get] at ha, h.chg, h.own, h.ex, h.lives, h.pins, h.ents, h.eids, h.apart⟩
theorem fnOk_of {C : Ctx T} {f : FuncId} {fn : Func} {c : Code} {cuts : List (Pos × Cut)} {z : Zw} {ps : List PT} {rs : List RT} {g : denPs T ps → Option (denIo T (iosP ps) (denRs T rs))} (hm : P.follows .mixedOrders = true) (hE : EnvOk T P C.E)
    (hf : P.funcs[f]? = some fn) (hb : fn.body = some c) (hs : Nat.ble ps.length fn.ntmps = true) (hpin : Nat.ble (iosP ps).length C.pin = true) (hg : ∀ x y, g x = some y → ∃ m, topF T P C cuts fn c z ps rs m x = some y) : FnOk T P f ⟨ps, rs, g⟩ := by
  intro x y hy w S φ vs hvs hS hent hsin hap
  obtain ⟨N, hN⟩ := hg x y hy
  have hlen : vs.length = ps.length := by rw [← hvs.len T]; exact argsL_len
  have hsz : vs.length ≤ fn.ntmps := by rw [hlen]; exact Nat.le_of_ble_eq_true hs
  have hfr : Fr fn.ntmps [] (argF vs 0) { tmps := vs.toArray ++ Array.replicate (fn.ntmps - vs.toArray.size) undef, defers := [] } := by
    refine ⟨by simp; omega, rfl, fun i v hv => ?_⟩
    obtain ⟨_, h2⟩ := argF_get vs 0 i v hv
    simp only [Nat.sub_zero] at h2
    have hi := (List.getElem?_eq_some_iff.1 h2).1
    refine ⟨?_, by omega⟩
    rw [Array.getD_eq_getD_getElem?, Array.getElem?_append_left (by simpa using hi)]
    simp [h2]
  have hrow : ∀ (i : Nat) (e : Ent T.U), (entPs T ps x)[i]? = some e → i < (iosP ps).length := by
    intro i e he
    have := (List.getElem?_eq_some_iff.1 he).1
    rwa [entPs_len] at this
  have hsim : Sim T w ⟨blksN φ (iosP ps).length, S, (List.range (iosP ps).length).map φ⟩ ⟨argFA T (argsL T 0 ps x) 0, entPs T ps x⟩ (argF vs 0) w S φ := by
    refine ⟨fun i a ha => argFA_get hvs ha, fun i a ha => argsL_ok (by rw [entPs_len]; omega) a (argFA_ids ha), Chg.refl _ _, fun b hb => ⟨.inl hb, hS b hb⟩, fun b hb _ _ => hb, fun i e he hl a ha => ⟨hsin i (hrow i e he) a ha, .inl ?_⟩, fun k r hk => ?_, hent, fun i e he j hj => ?_, fun i j e e' he he' _ _ hij => hap i j (hrow i e he) (hrow j e' he') hij⟩
    · unfold blksN
      exact List.mem_flatMap.2 ⟨i, List.mem_range.2 (hrow i e he), mem_all.2 ⟨a, ha, rfl⟩⟩
    · have hlt := (List.getElem?_eq_some_iff.1 hk).1
      simp at hlt
      simp [hlt] at hk
      exact ⟨.of hk, by simp only [entPs_len]; exact hlt⟩
    · rw [entPs_row (List.mem_of_getElem? he)] at hj; cases hj
  have hpin' := Nat.le_of_ble_eq_true hpin
  have key : ∀ st, leafK T P fn z ps rs st = some y → ∀ F1 w1, Stands T w ⟨blksN φ (iosP ps).length, S, (List.range (iosP ps).length).map φ⟩ st F1 w1 → ∀ a, Fr fn.ntmps [] F1 a → ∃ v, (results fn a.tmps).run P w1 = .ok v w1 ∧
      ∃ (F1 : AF T) (H1 : List (Ent T.U)) (F1' : PF) (S1 : List Nat) (φ1 : Nat → RA) (as : List (AV T.U)) (us : List Value), Sim T w ⟨blksN φ (iosP ps).length, S, (List.range (iosP ps).length).map φ⟩ ⟨F1, H1⟩ F1' w1 S1 φ1 ∧ VRL T w1 S1 φ1 as us ∧ v = packV us ∧ rdIo T H1 (rdRs T H1 rs as) (iosP ps) 0 = some y ∧ nodupN (ownIds T rs as) = true ∧ ∀ i ∈ ownIds T rs as, (iosP ps).length ≤ i := by
    intro st hst F1 w1 ⟨S1, φ1, hsm⟩ a ha
    unfold leafK at hst
    split at hst <;> try (cases hst; done)
    rename_i as0 has
    obtain ⟨us, h1, h2⟩ := results_run hsm ha has
    split at hst <;> try (cases hst; done)
    rename_i as1 H1 hw
    obtain ⟨φw, hsmw, hvw, _⟩ := fixW_sound (by simp) z.w hw hsm.noF h2 (fixR_res (P := P) hsm has)
    obtain ⟨as, H2, S2, hK, hsm2, hv2⟩ := fixZ_sound z.z hst hsmw hvw
    unfold leafK0 at hK
    split at hK <;> try (cases hK; done)
    rename_i hn
    simp only [Bool.and_eq_true] at hn
    refine ⟨_, h1, [], H2, F1, S2, φw, as, us, hsm2, hv2, rfl, hK, hn.1, fun i hi => ?_⟩
    have := hn.2
    rw [List.all_eq_true] at this
    exact Nat.le_of_ble_eq_true (this i hi)
  have hKs : KsOk (bodyPost P fn fun e w' => match e with
      | .returned v => ∃ (F1 : AF T) (H1 : List (Ent T.U)) (F1' : PF) (S1 : List Nat) (φ1 : Nat → RA) (as : List (AV T.U)) (us : List Value), Sim T w ⟨blksN φ (iosP ps).length, S, (List.range (iosP ps).length).map φ⟩ ⟨F1, H1⟩ F1' w' S1 φ1 ∧ VRL T w' S1 φ1 as us ∧ v = packV us ∧
          rdIo T H1 (rdRs T H1 rs as) (iosP ps) 0 = some y ∧ nodupN (ownIds T rs as) = true ∧ ∀ i ∈ ownIds T rs as, (iosP ps).length ≤ i
      | _ => False) fn.ntmps [] w ⟨blksN φ (iosP ps).length, S, (List.range (iosP ps).length).map φ⟩ y (leafs T P fn z ps rs) := by
    refine ⟨?_, fun i st h => (by cases h), ?_, fun a st h => (by cases h)⟩
    · intro st hst F1 w1 hs1 a ha
      obtain ⟨v, h1, h2⟩ := key st hst F1 w1 hs1 a ha
      exact ⟨ha.defers, v, h1, h2⟩
    · intro st hst F1 w1 hs1 a ha
      obtain ⟨v, h1, h2⟩ := key st hst F1 w1 hs1 a ha
      exact ⟨ha.defers, v, h1, h2⟩
  have hp : ((List.range (iosP ps).length).map φ).length ≤ C.pin := by simpa using hpin'
  exact calls_of_wp hf hb (evC_sound hm hp hE c [] _ _ _ _ w hN hKs (JOk.run hm hp hE hKs N) ⟨S, φ, hsim⟩ _ hfr)
theorem envNil : EnvOk T P [] := fun f cs h => by cases h
end
end Go.X
