/- A function whose code was walked is known; what is known of it, for its callers. Nothing here is about one program. -/
import Derived.Test.YtjjlcenmifcaeaaX13
namespace Go.X
open Go.RowKit Go.V

structure FnSpec (T : Tab) where
  ps : List PT
  rs : List RT
  g : denPs T ps → Option (denIo T (iosP ps) (denRs T rs))
def packV : List Value → Value
  | [v] => v
  | l => .tuple l.toArray
def blksN (φ : Nat → RA) (n : Nat) : List Nat := (List.range n).flatMap fun k => (φ k).all
def partsOk (n : Nat) : List RT → Bool | [] => true | .part k :: r => Nat.blt k n && partsOk n r | _ :: r => partsOk n r
section
variable (T : Tab) (P : Program)
/-- A function answers as it is said: it changes nothing but the rows that it was handed. -/
def FnOk (f : FuncId) (sp : FnSpec T) : Prop := ∀ x y, sp.g x = some y → ∀ (w : World) (S : List Nat) (φ : Nat → RA) (vs : List Value), VRL T w S φ (argsL T 0 sp.ps x) vs → (∀ b ∈ S, b < w.heap.size) →
  (∀ k e, (entPs T sp.ps x)[k]? = some e → EntR T w S φ k e) → (∀ k, k < (iosP sp.ps).length → ∀ a, At (φ k) a → a.block ∈ S) → (∀ j k, j < (iosP sp.ps).length → k < (iosP sp.ps).length → j ≠ k → ∀ a b, At (φ j) a → At (φ k) b → a.block ≠ b.block) →
  Calls P f vs.toArray w fun e w' => match e with
    | .returned v => ∃ (F1 : AF T) (H1 : List (Ent T.U)) (F1' : PF) (S1 : List Nat) (φ1 : Nat → RA) (as : List (AV T.U)) (us : List Value), Sim T w ⟨blksN φ (iosP sp.ps).length, S, (List.range (iosP sp.ps).length).map φ⟩ ⟨F1, H1⟩ F1' w' S1 φ1 ∧ VRL T w' S1 φ1 as us ∧ v = packV us ∧
        rdIo T H1 (rdRs T H1 sp.rs as) (iosP sp.ps) 0 = some y ∧ nodupN (ownIds T sp.rs as) = true ∧ ∀ i ∈ ownIds T sp.rs as, (iosP sp.ps).length ≤ i
    | _ => False
def FnSpec.toCall {T : Tab} (sp : FnSpec T) : CallSpec T where
  call := fun as H K _ => match rdPs T H sp.ps as with
    | some x => match nodupN (idsIn T sp.ps as) && partsOk (idsIn T sp.ps as).length sp.rs with
      | true => obind (sp.g x) fun y => K (packR T (avRs T (idsIn T sp.ps as) (iosP sp.ps) H.length sp.rs (lastIo T (iosP sp.ps) y))) (setIo T H (idsIn T sp.ps as) (entIo T (iosP sp.ps) y) ++ entRs T sp.rs (lastIo T (iosP sp.ps) y))
      | false => none
    | none => match scalRs T sp.rs && partsOk 0 sp.rs with
      | true => rdPsF T H sp.ps as fun x => obind (sp.g x) fun y => K (packR T (avRs T [] [] H.length sp.rs (lastIo T (iosP sp.ps) y))) (H ++ entRs T sp.rs (lastIo T (iosP sp.ps) y))
      | false => none
  q := fun as H K => match qRs T sp.rs with
    | true => rdPsF T H sp.ps as fun x => obind (sp.g x) fun y => K (packR T (avRs T [] [] 0 sp.rs (lastIo T (iosP sp.ps) y)))
    | false => none
  isq := qRs T sp.rs
  wr := fun as H => match rdPs T H sp.ps as with | some _ => idsIn T sp.ps as | none => []
def argFA : List (AV T.U) → Nat → AF T
  | [], _ => []
  | a :: r, i => (i, a) :: argFA r (i + 1)
/-- results that lie in slots, or in cells. -/
def resA (st : St T) : List ResultVar → Option (List (AV T.U))
  | [] => some []
  | .tmp t :: r => match st.F.get T t, resA st r with | some a, some l => some (a :: l) | _, _ => none
  | .cell c t :: r => match st.F.get T c, resA st r with
    | some (.ptr i o), some l => match st.H[i]? with
      | some (.blk _ cs) => match loadB T P t cs o with | some a => some (a :: l) | none => none
      | _ => none
    | _, _ => none
def leafK0 (ps : List PT) (rs : List RT) (as : List (AV T.U)) (H : List (Ent T.U)) : Option (denIo T (iosP ps) (denRs T rs)) :=
  match nodupN (ownIds T rs as) && (ownIds T rs as).all (fun i => Nat.ble (iosP ps).length i) with
  | true => rdIo T H (rdRs T H rs as) (iosP ps) 0
  | false => none
def leafK (fn : Func) (z : Zw) (ps : List PT) (rs : List RT) (st : St T) : Option (denIo T (iosP ps) (denRs T rs)) :=
  match resA T P st fn.results.toList with
  | some as => match fixW T (iosP ps).length z.w as st.H with
    | some (as1, H1) => fixZ T z.z as1 H1 (leafK0 T ps rs)
    | none => none
  | none => none
def leafs (fn : Func) (z : Zw) (ps : List PT) (rs : List RT) : Ks T (denIo T (iosP ps) (denRs T rs)) := ⟨leafK T P fn z ps rs, fun _ _ => none, leafK T P fn z ps rs, fun _ _ => none⟩
/-- What a function's code comes to: with fuel for the cuts; from a cut on. -/
noncomputable def topF (C : Ctx T) (cuts : List (Pos × Cut)) (fn : Func) (c : Code) (z : Zw) (ps : List PT) (rs : List RT) (m : Nat) (x : denPs T ps) : Option (denIo T (iosP ps) (denRs T rs)) :=
  evC P C fn.ntmps cuts (run P C fn.ntmps cuts c (leafs T P fn z ps rs) m) c [] (leafs T P fn z ps rs) ⟨argFA T (argsL T 0 ps x) 0, entPs T ps x⟩
noncomputable def cutF (C : Ctx T) (cuts : List (Pos × Cut)) (fn : Func) (c : Code) (z : Zw) (ps : List PT) (rs : List RT) (m : Nat) (q : Pos) (st : St T) : Option (denIo T (iosP ps) (denRs T rs)) :=
  run P C fn.ntmps cuts c (leafs T P fn z ps rs) m q st
end
section
variable {T : Tab} {P : Program} {w w' : World} {S S' : List Nat} {φ φ' : Nat → RA} {w0 : World} {S0 : Ow} {F : AF T} {H : List (Ent T.U)} {F' : PF}
theorem setIo_len : ∀ (ids : List Nat) (es : List (Ent T.U)) (H : List (Ent T.U)), (setIo T H ids es).length = H.length
  | [], _, H => by simp [setIo]
  | _ :: _, [], H => by simp [setIo]
  | i :: r, e :: es, H => by rw [setIo, setIo_len r es]; simp
theorem setIo_get {j : Nat} {f : Ent T.U} : ∀ (ids : List Nat) (es : List (Ent T.U)) (H : List (Ent T.U)), es.length = ids.length → (setIo T H ids es)[j]? = some f → (∃ k : Nat, ids[k]? = some j ∧ es[k]? = some f) ∨ (j ∉ ids ∧ H[j]? = some f)
  | [], [], H, _, h => .inr ⟨by simp, by simpa [setIo] using h⟩
  | [], _ :: _, _, hl, _ => by simp at hl
  | _ :: _, [], _, hl, _ => by simp at hl
  | i :: r, e :: es, H, hl, h => by
    rw [setIo] at h
    rcases setIo_get r es _ (by simpa using hl) h with ⟨k, h1, h2⟩ | ⟨h1, h2⟩
    · exact .inl ⟨k + 1, by simpa using h1, by simpa using h2⟩
    · by_cases hji : j = i
      · subst hji
        have hlt : j < H.length := by have := (List.getElem?_eq_some_iff.1 h2).1; simpa using this
        rw [List.getElem?_set_self hlt] at h2
        exact .inl ⟨0, rfl, by simpa using h2⟩
      · rw [List.getElem?_set_ne (Ne.symm hji)] at h2
        exact .inr ⟨by simp [hji, h1], h2⟩
/-- rows that were handed have changed, memory is new; nothing else is. -/
theorem Sim.io (h : Sim T w0 S0 ⟨F, H⟩ F' w S φ) {Tc : List Nat} (hc : Chg Tc w w') {S1 : List Nat} (h1 : ∀ b ∈ S, b ∉ Tc → b < w.heap.size → b ∈ S1) (h2 : ∀ b ∈ S1, b ∈ S ∨ (w.heap.size ≤ b ∧ b < w'.heap.size)) {ids : List Nat} {es : List (Ent T.U)} (hlen : es.length = ids.length)
    (hT : ∀ b ∈ Tc, ∃ i ∈ ids, ∃ a, At (φ i) a ∧ a.block = b) (hS1 : ∀ i ∈ ids, ∀ a, At (φ i) a → a.block ∈ S1) (hnew : ∀ (k i : Nat), ids[k]? = some i → ∃ (e : TypeId) (t : Ty) (xs ys : List (den T.U t)), H[i]? = some (.row e t xs) ∧ es[k]? = some (.row e t ys) ∧ EntR T w' S1 φ i (.row e t ys)) : Sim T w0 S0 ⟨F, setIo T H ids es⟩ F' w' S1 φ := by
  have hS : ∀ b ∈ S1, b ∈ S ∨ w.heap.size ≤ b := fun b hb => (h2 b hb).imp id And.left
  have hnew' : ∀ i ∈ ids, ∃ (k : Nat) (e : TypeId) (t : Ty) (xs ys : List (den T.U t)), ids[k]? = some i ∧ H[i]? = some (.row e t xs) ∧ es[k]? = some (.row e t ys) ∧ EntR T w' S1 φ i (.row e t ys) := by
    intro i hi
    obtain ⟨k, hk⟩ := List.mem_iff_getElem?.1 hi
    obtain ⟨e, t, xs, ys, a, b, c⟩ := hnew k i hk
    exact ⟨k, e, t, xs, ys, hk, a, b, c⟩
  have hTS : ∀ b ∈ Tc, b ∈ S := by
    intro b hb
    obtain ⟨i, hi, a, ha, rfl⟩ := hT b hb
    obtain ⟨_, e, t, xs, ys, _, g1, _⟩ := hnew' i hi
    exact liveAt h g1 rfl ha
  have old : ∀ (j : Nat) (f : Ent T.U), (setIo T H ids es)[j]? = some f → ∃ f0, H[j]? = some f0 ∧ (f.live = true → f0.live = true) := by
    intro j f hf
    rcases setIo_get ids es H hlen hf with ⟨k, g1, g2⟩ | ⟨_, g2⟩
    · obtain ⟨e, t, xs, ys, a, _, _⟩ := hnew k j g1
      exact ⟨_, a, fun _ => rfl⟩
    · exact ⟨f, g2, id⟩
  refine ⟨?_, ?_, ?_, ?_, fun b hb q1 q2 => h1 b (h.ex b hb q1 q2) (fun hm => by
      obtain ⟨i, hi, a, ha, rfl⟩ := hT b hm
      obtain ⟨_, e, t, xs, ys, _, g1, _⟩ := hnew' i hi
      rcases (h.lives i _ g1 rfl a ha).2 with hl | hl
      · exact q1 hl
      · omega) (h.own b (h.ex b hb q1 q2)).2, ?_, fun k r hk => ?_, ?_, ?_, ?_⟩
  · intro i a ha
    obtain ⟨v, h3, h4⟩ := h.fr i a ha
    exact ⟨v, h3, h4.chg T hc hTS hS⟩
  · intro i a ha
    obtain ⟨g1, g2⟩ := h.ids i a ha
    refine ⟨fun x hx => by simp only [setIo_len]; exact g1 x hx, ?_⟩
    cases a with
    | eptr y sz k c =>
      intro e1 t1 zs hx
      rcases setIo_get ids es H hlen hx with ⟨k', q1, q2⟩ | ⟨_, q2⟩
      · obtain ⟨e, t, xs, ys, a1, b1, c1⟩ := hnew k' y q1
        rw [b1] at q2
        simp only [Option.some.injEq, Ent.row.injEq] at q2
        obtain ⟨rfl, rfl, q3⟩ := q2
        have := eq_of_heq q3; subst this
        obtain ⟨q4, q5⟩ := g2 e t xs a1
        obtain ⟨_, _, _, n1, _⟩ := h.ents y _ a1
        obtain ⟨_, _, _, n2, _⟩ := c1
        exact ⟨by omega, q5⟩
      · exact g2 e1 t1 zs q2
    | _ => trivial
  · refine h.chg.step hc fun b hb => ?_
    obtain ⟨i, hi, a, ha, rfl⟩ := hT b hb
    obtain ⟨_, e, t, xs, ys, _, g1, _⟩ := hnew' i hi
    exact (h.lives i _ g1 rfl a ha).2
  · intro b hb
    rcases h2 b hb with hb | ⟨hb, hlt⟩
    · exact ⟨(h.own b hb).1, Nat.lt_of_lt_of_le (h.own b hb).2 hc.size⟩
    · exact ⟨.inr (Nat.le_trans h.chg.size hb), hlt⟩
  · intro j f hf hl a ha
    obtain ⟨f0, g1, g2⟩ := old j f hf
    have q := h.lives j f0 g1 (g2 hl) a ha
    refine ⟨?_, q.2⟩
    by_cases hj : j ∈ ids
    · exact hS1 j hj a ha
    · refine h1 _ q.1 (fun hb => ?_) (h.own _ q.1).2
      obtain ⟨i, hi, a', ha', hbe⟩ := hT _ hb
      obtain ⟨_, e, t, xs, ys, _, q1, _⟩ := hnew' i hi
      exact h.apart j i f0 _ g1 q1 (g2 hl) rfl (fun e => hj (e ▸ hi)) a a' ha ha' hbe.symm
  · obtain ⟨g1, g2⟩ := h.pins k r hk
    exact ⟨g1, by simp only [setIo_len]; exact g2⟩
  · intro j f hf
    rcases setIo_get ids es H hlen hf with ⟨k, g1, g2⟩ | ⟨hj, g2⟩
    · obtain ⟨e, t, xs, ys, a, b, c⟩ := hnew k j g1
      rw [b] at g2; simp only [Option.some.injEq] at g2; subst g2
      exact c
    · have hnot : f.live = true → ∀ a, At (φ j) a → a.block ∉ Tc := fun hl a ha hb => by
        obtain ⟨i, hi, a', ha', hbe⟩ := hT _ hb
        obtain ⟨_, e, t, xs, ys, _, q1, _⟩ := hnew' i hi
        exact h.apart j i f _ g2 q1 hl rfl (fun e => hj (e ▸ hi)) a a' ha ha' hbe.symm
      exact (h.ents j f g2).chg T hc hTS hS fun hl a ha => ⟨hnot hl a ha, h1 _ (liveAt h g2 hl ha) (hnot hl a ha) (h.own _ (liveAt h g2 hl ha)).2⟩
  · intro j f hf x hx
    simp only [setIo_len]
    rcases setIo_get ids es H hlen hf with ⟨k, g1, g2⟩ | ⟨_, g2⟩
    · obtain ⟨e, t, xs, ys, a, b, c⟩ := hnew k j g1
      rw [b] at g2; simp only [Option.some.injEq] at g2; subst g2
      cases hx
    · exact h.eids j f g2 x hx
  · intro j k f f' hf hf' hl hl' hjk a b ha hb
    obtain ⟨f0, g1, g2⟩ := old j f hf
    obtain ⟨f0', g1', g2'⟩ := old k f' hf'
    exact h.apart j k f0 f0' g1 g1' (g2 hl) (g2' hl') hjk a b ha hb
/-- cells may be seen with other blocks that change, where no list lies in them. -/
def Up (T : Tab) (m : Bool) (w : World) (S S1 : List Nat) : Prop := ∀ (t : Ty) (x : den T.U t) (v : Value), (m = true → t.scal = true) → CR T w S t x v → CR T w S1 t x v
theorem up_vrl {m : Bool} {S1 : List Nat} (hu : Up T m w S S1) : ∀ {cs : List (Cell T.U)} {vs : List Value}, (m = true → ∀ c ∈ cs, c.t.scal = true) → VRL T w S φ (cs.map .cell) vs → VRL T w S1 φ' (cs.map .cell) vs
  | [], [], _, _ => trivial
  | [], _ :: _, _, h => h.elim
  | _ :: _, [], _, h => h.elim
  | c :: r, _ :: _, hm, h => ⟨hu _ _ _ (fun e => hm e c (List.mem_cons_self ..)) h.1, up_vrl hu (fun e c hc => hm e c (List.mem_cons_of_mem _ hc)) h.2⟩
theorem up_toAV {m : Bool} {S1 : List Nat} (hu : Up T m w S S1) {t : Ty} {x : den T.U t} {v : Value} (hm : m = true → scalT T t = true) (h : VR T w S φ (toAV T t x) v) : VR T w S1 φ' (toAV T t x) v := by
  cases t with
  | user i =>
    obtain ⟨vs, h1, h2⟩ := h
    exact ⟨vs, h1, up_vrl hu (fun e => T.scals i x (hm e)) h2⟩
  | int k => exact hu _ _ _ hm h
  | bool => exact hu _ _ _ hm h
  | str => exact hu _ _ _ hm h
  | list e => exact hu _ _ _ hm h
  | nl e => exact hu _ _ _ hm h
theorem flat_scal {t : Ty} (h : scalT T t = true) (x : den T.U t) : ∀ c ∈ flat T t x, c.t.scal = true := by
  cases t with
  | user i => exact T.scals i x h
  | list e => cases h
  | nl e => cases h
  | int k => intro c hc; simp only [flat, List.mem_singleton] at hc; subst hc; rfl
  | bool => intro c hc; simp only [flat, List.mem_singleton] at hc; subst hc; rfl
  | str => intro c hc; simp only [flat, List.mem_singleton] at hc; subst hc; rfl
theorem up_cells {m : Bool} {S1 : List Nat} (hu : Up T m w S S1) {cs : List (Cell T.U)} {vs : List Value} (hm : m = true → ∀ c ∈ cs, c.t.scal = true) (h : CellsR T w S cs vs) : CellsR T w S1 cs vs :=
  ⟨h.1, fun j c v h1 h2 => hu _ _ _ (fun e => hm e c (List.mem_of_getElem? h1)) (h.2 j c v h1 h2)⟩
theorem toAV_ids (t : Ty) (x : den T.U t) : (toAV T t x).ids = [] := by
  cases t with
  | user i =>
    show idsL ((T.cells i x).map AV.cell) = []
    induction T.cells i x with
    | nil => rfl
    | cons c r ih => rw [List.map_cons, idsL, ih]; rfl
  | _ => rfl
theorem toAV_notEp (t : Ty) (x : den T.U t) : notEp (toAV T t x) = true := by cases t <;> rfl
/-- where the rows that are answered lie, and that they are apart. -/
def Fresh (w : World) (Hc : List (Ent T.U)) (φc : Nat → RA) (used : List Nat) (H : List (Ent T.U)) (φ : Nat → RA) : Prop :=
  ∀ (j : Nat) (e : Ent T.U), H[j]? = some e → e.live = true → ∀ a, At (φ j) a → a.block < w.heap.size ∨ ∃ i ∈ used, (∃ e', Hc[i]? = some e' ∧ e'.live = true) ∧ ∃ b, At (φc i) b ∧ b.block = a.block
/-- of a row its beginning. -/
theorem own_take {B n cap m sz e : Nat} {ad : Option Addr} {cs : List Value} (h : Own w B e sz ad n cap cs) (hm : m ≤ n) : Own w B e sz ad m cap (cs.take (m * sz)) := by
  rcases h.cases with ⟨rfl, hn, rfl, rfl⟩ | ⟨c, had, hB, hb, hle, hmx, hs, ht⟩
  · have : m = 0 := by omega
    subst this
    simpa using Own.nil w B e sz
  · rw [had]
    refine Own.ofBlk hb hB (by omega) hmx hs _ ?_
    rw [← ht, List.take_take, Nat.min_eq_left (Nat.mul_le_mul_right _ hm)]
theorem rdOwn_row {Hc : List (Ent T.U)} {e : TypeId} {t : Ty} {a : AV T.U} {y : List (den T.U t)} {v : Value} {Fc : AF T} {Fc' : PF} {S0c : Ow} {S1c : List Nat} {φc : Nat → RA} (hc : Sim T w S0c ⟨Fc, Hc⟩ Fc' w' S1c φc) (h : rdOwn T Hc e t a = some y) (hv : VR T w' S1c φc a v) :
    (y = [] ∧ v = .slice none 0 0) ∨ ∃ i xs vals B, ownId T (.own e t) a = [i] ∧ Hc[i]? = some (.row e t xs) ∧ v = .slice (φc i).ad y.length (φc i).cap ∧ Own w' B e (szT T t) (φc i).ad y.length (φc i).cap vals ∧ B ≤ w'.heap.size ∧ CellsR T w' S1c (y.flatMap (flat T t)) vals ∧ ∀ q, (φc i).ad = some q → q.block ∈ S1c := by
  unfold rdOwn at h
  split at h
  · rename_i i
    split at h
    · rename_i e' t' xs hi
      split at h
      · rename_i hbe
        have := Nat.eq_of_beq_eq_true hbe; subst this
        split at h
        · rename_i htt
          subst htt
          have h : xs = y := Option.some.inj h
          subst h
          obtain ⟨B, vals, o1, o2, o3, o4, o5⟩ := hc.ents i _ hi
          rw [VR] at hv; subst hv
          rw [o2] at o1 ⊢
          exact .inr ⟨i, xs, vals, B, rfl, hi, rfl, o1, o3, o4, o5⟩
        · cases h
      · cases h
    · cases h
  · rename_i i sz n
    split at h
    · rename_i e' t' xs hi
      split at h
      · rename_i hbe hsz
        have := Nat.eq_of_beq_eq_true hbe; subst this
        have := Nat.eq_of_beq_eq_true hsz; subst this
        split at h
        · rename_i htt
          subst htt
          split at h
          · rename_i hle
            have h : xs.take n = y := Option.some.inj h
            subst h
            obtain ⟨B, vals, o1, o2, o3, o4, o5⟩ := hc.ents i _ hi
            obtain ⟨ad, rfl, _, _, _, h0⟩ := hv
            have := h0 rfl; subst this
            rw [o2] at o1
            have hl : (xs.take n).length = n := by rw [List.length_take]; omega
            refine .inr ⟨i, xs, vals.take (n * szT T t'), B, rfl, hi, by rw [hl]; rfl, ?_, o3, ?_, o5⟩
            · rw [hl]; exact own_take o1 hle
            · have := o4.cut 0 (n * szT T t')
              rw [List.drop_zero, List.drop_zero] at this
              have hf : (xs.flatMap (flat T t')).take (n * szT T t') = (xs.take n).flatMap (flat T t') := by
                have hsp : xs.flatMap (flat T t') = (xs.take n).flatMap (flat T t') ++ (xs.drop n).flatMap (flat T t') := by rw [← List.flatMap_append, List.take_append_drop]
                rw [hsp, List.take_left' (by rw [flatMap_len' (flat_len T t'), hl])]
              rwa [hf] at this
          · cases h
        · cases h
      · cases h
    · cases h
  · have h : [] = y := Option.some.inj h
    rw [VR] at hv
    exact .inl ⟨h.symm, hv⟩
  · cases h
theorem ret_one {m : Bool} {m0 : Nat} {Hc : List (Ent T.U)} {Fc : AF T} {Fc' : PF} {S0c : Ow} {S1c S1 : List Nat} {φc : Nat → RA} (hc : Sim T w S0c ⟨Fc, Hc⟩ Fc' w' S1c φc) (hu : Up T m w' S1c S1) (hin : ∀ b ∈ S1c, b ∈ S1) (hw : w0.heap.size ≤ w.heap.size)
    (hage : ∀ (i : Nat) (e : Ent T.U), m0 ≤ i → Hc[i]? = some e → e.live = true → ∀ a, (φc i).ad = some a → w.heap.size ≤ a.block)
    {t : RT} (ht : m = true → t.scal T = true) {a : AV T.U} {v : Value} {y : denRT T t} (hv : VR T w' S1c φc a v) (hr : rdR T Hc t a = some y) {used : List Nat} (hnew : ∀ i ∈ ownId T t a, i ∉ used ∧ m0 ≤ i) {ids : List Nat} {ios : List (TypeId × Ty)}
    (hids : ∀ k, t = .part k → ∃ i, ids[k]? = some i ∧ RSame (φc k) (φ i) ∧ i < H.length ∧ ∀ (e : TypeId) (t : Ty) (xs : List (den T.U t)), Hc[k]? = some (.row e t xs) → szT T t = szT T (ios.getD k (0, .bool)).2)
    (h : Sim T w0 S0 ⟨F, H⟩ F' w' S1 φ) (hf : Fresh w Hc φc used H φ) :
    ∃ φ1, Sim T w0 S0 ⟨F, H ++ entR T t y⟩ F' w' S1 φ1 ∧ VR T w' S1 φ1 (avR T ids ios H.length t y) v ∧ Fresh w Hc φc (ownId T t a ++ used) (H ++ entR T t y) φ1 ∧ (∀ i, i < H.length → φ1 i = φ i) ∧ ∀ i ∈ (avR T ids ios H.length t y).ids, i < (H ++ entR T t y).length := by
  have stay : ∀ (hE : entR T t y = []) (hav : VR T w' S1 φ (avR T ids ios H.length t y) v) (hi : ∀ i ∈ (avR T ids ios H.length t y).ids, i < H.length),
      ∃ φ1, Sim T w0 S0 ⟨F, H ++ entR T t y⟩ F' w' S1 φ1 ∧ VR T w' S1 φ1 (avR T ids ios H.length t y) v ∧ Fresh w Hc φc (ownId T t a ++ used) (H ++ entR T t y) φ1 ∧ (∀ i, i < H.length → φ1 i = φ i) ∧ ∀ i ∈ (avR T ids ios H.length t y).ids, i < (H ++ entR T t y).length := by
    intro hE hav hi
    rw [hE, List.append_nil]
    refine ⟨φ, h, hav, ?_, fun i _ => rfl, hi⟩
    intro j e hj hl b hb
    rcases hf j e hj hl b hb with h1 | ⟨i, hi, h1⟩
    · exact .inl h1
    · exact .inr ⟨i, List.mem_append.2 (.inr hi), h1⟩
  cases t with
  | val t =>
    have hval : ofAV T t a = some y := hr
    refine stay rfl (up_toAV hu ht (ofAV_rel hval hv φ)) fun i hi => ?_
    have : (avR T ids ios H.length (.val t) y).ids = [] := toAV_ids t y
    rw [this] at hi; cases hi
  | part k =>
    replace hr : rdPart T Hc k a = some y := hr
    obtain ⟨i0, g1, g2, g3, g4⟩ := hids k rfl
    have hgd : ids.getD k 0 = i0 := by rw [List.getD_eq_getElem?_getD, g1]; rfl
    refine stay rfl ?_ fun i hi => by
      simp only [avR, AV.ids, List.mem_singleton] at hi; subst hi; rw [hgd]; exact g3
    show VR T w' S1 φ (.sl (ids.getD k 0) (szT T (ios.getD k (0, .bool)).2) y.1 y.2) v
    rw [hgd, VR, ← g2.1, ← g2.2.2]
    unfold rdPart at hr
    split at hr
    · rename_i i
      split at hr
      · rename_i e1 t1 xs hik hi
        have := Nat.eq_of_beq_eq_true hik; subst this
        have hr : (0, xs.length) = y := Option.some.inj hr
        subst hr
        obtain ⟨B, vals, o1, o2, o3, o4, o5⟩ := hc.ents i _ hi
        rw [VR] at hv; subst hv
        rw [o2] at o1
        refine ⟨(φc i).ad, ?_, ?_, ?_, fun hn => o1.nil0 hn, fun _ => rfl⟩
        · show Value.slice (φc i).ad (φc i).n (φc i).cap = Value.slice (φc i).ad xs.length ((φc i).cap - 0)
          rw [o2]; rfl
        · show 0 + xs.length ≤ (φc i).cap
          rw [Nat.zero_add]; exact o1.le.1
        rcases o1.cases with ⟨_, hn, _⟩ | ⟨c, had, _⟩
        · exact .inl hn
        · refine .inr ⟨_, had, had.trans ?_⟩
          show some (⟨_, 0, none⟩ : Addr) = some ⟨_, 0 + 0 * _, none⟩
          rw [Nat.zero_mul]
      · cases hr
    · rename_i i sz o n
      split at hr
      · rename_i e1 t1 xs hik hi
        have := Nat.eq_of_beq_eq_true hik; subst this
        split at hr
        · rename_i hsz
          have := Nat.eq_of_beq_eq_true hsz; subst this
          have hr : (o, n) = y := Option.some.inj hr
          subst hr
          rw [← g4 e1 t1 xs hi]
          exact hv
        · cases hr
      · cases hr
    · cases hr
  | own e t =>
    rcases rdOwn_row hc hr hv with ⟨rfl, rfl⟩ | ⟨i, xs, vals, B, hid, hi, rfl, o1, o3, o4, o5⟩
    · have hadd := h.addG (Chg.refl [] w') (by simp) (by simp) (fun _ _ _ _ _ _ => by simp) (S' := S1) (fun _ h => h) (fun _ h => .inl h) (r := ⟨none, 0, 0, []⟩) (fun a h => by cases at_ad h) (fun a h => by cases at_ad h) (e := .row e t [])
        ⟨w'.heap.size, [], by rw [setR_eq]; exact Own.nil _ _ _ _, by rw [setR_eq]; rfl, Nat.le_refl _, ⟨rfl, fun j c v h => by simp at h⟩, fun a ha => by rw [setR_eq] at ha; cases ha⟩ (fun j hj => by cases hj)
      refine ⟨_, hadd, by simp only [avR]; rw [VR, setR_eq], ?_, fun i hi => setR_ne (by omega), fun i hi => ?_⟩
      · intro j e1 hj hl b hb
        rcases Nat.lt_trichotomy j H.length with hlt | rfl | hgt
        · rw [List.getElem?_append_left hlt] at hj
          rw [setR_ne (by omega)] at hb
          rcases hf j e1 hj hl b hb with h1 | ⟨i, hi, h1⟩
          · exact .inl h1
          · exact .inr ⟨i, List.mem_append.2 (.inr hi), h1⟩
        · rw [setR_eq] at hb; cases at_ad hb
        · rw [List.getElem?_eq_none (by simp [entR]; omega)] at hj; cases hj
      · simp [avR, AV.ids] at hi; subst hi; simp [entR]
    · obtain ⟨hni, hm0⟩ := hnew i (by rw [hid]; simp)
      have hlv := hage i _ hm0 hi rfl
      have hage' : ∀ b ∈ blks (φc i).ad, w.heap.size ≤ b := by
        intro b hb
        unfold blks at hb
        split at hb
        · rename_i q hq; simp at hb; subst hb; exact hlv q hq
        · cases hb
      have hin' : ∀ b ∈ blks (φc i).ad, b ∈ S1 := by
        intro b hb
        unfold blks at hb
        split at hb
        · rename_i q hq; simp at hb; subst hb; exact hin _ (o5 q hq)
        · cases hb
      have hadd := h.addG (Chg.refl (blks (φc i).ad) w') hin' (fun b hb => .inr (Nat.le_trans hw (hage' b hb))) (fun j e1 hj hl q hq hm => by
        have hge := hage' _ hm
        rcases hf j e1 hj hl q hq with h1 | ⟨i', hi', ⟨e2, h2, h3⟩, b2, h4, h5⟩
        · omega
        · unfold blks at hm
          split at hm
          · rename_i q' hq'
            simp at hm
            exact hc.apart i' i e2 _ h2 hi h3 rfl (fun e => hni (e ▸ hi')) b2 q' h4 (.inl hq') (h5.trans hm)
          · cases hm) (S' := S1) (fun _ h => h) (fun _ h => .inl h) (r := ⟨(φc i).ad, y.length, (φc i).cap, []⟩) (fun q hq => .inr (by
            have hq : (φc i).ad = some q := at_ad hq
            unfold blks; rw [hq]; simp)) (fun q hq => hin' _ (by have hq : (φc i).ad = some q := at_ad hq; unfold blks; rw [hq]; simp)) (e := .row e t y)
        ⟨B, vals, by rw [setR_eq]; exact o1, by rw [setR_eq], o3, up_cells hu (fun em c hcm => by
            obtain ⟨x, _, hx⟩ := List.mem_flatMap.1 hcm
            exact flat_scal (ht em) x c hx) o4, fun q hq => by rw [setR_eq] at hq; exact hin' _ (by have hq : (φc i).ad = some q := hq; unfold blks; rw [hq]; simp)⟩ (fun j hj => by cases hj)
      refine ⟨_, hadd, by simp only [avR]; rw [VR, setR_eq], ?_, fun i hi => setR_ne (by omega), fun i hi => ?_⟩
      · intro j e1 hj hl b hb
        rcases Nat.lt_trichotomy j H.length with hlt | rfl | hgt
        · rw [List.getElem?_append_left hlt] at hj
          rw [setR_ne (by omega)] at hb
          rcases hf j e1 hj hl b hb with h1 | ⟨i, hi, h1⟩
          · exact .inl h1
          · exact .inr ⟨i, List.mem_append.2 (.inr hi), h1⟩
        · rw [setR_eq] at hb
          exact .inr ⟨i, List.mem_append.2 (.inl (by rw [hid]; simp)), ⟨_, hi, rfl⟩, b, .inl (at_ad hb), rfl⟩
        · rw [List.getElem?_eq_none (by simp [entR]; omega)] at hj; cases hj
      · simp [avR, AV.ids] at hi; subst hi; simp [entR]
end
end Go.X
