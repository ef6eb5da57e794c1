/- A region of a drawn order: each operation sees just what it touches; what may not be exchanged, is ordered. Nothing here is about one program. -/
import Derived.Test.YtjjlcenmifcaeaaXC
import Derived.Test.YtjjlcenmifcaeaaXE
namespace Go.X
open Go.RowKit Go.V

section
variable {T : Tab} {P : Program} {C : Ctx T} {w w' : World} {S S' : List Nat} {φ φ' : Nat → RA} {w0 : World} {S0 : Ow} {F : AF T} {H : List (Ent T.U)} {F' : PF}
variable {ops : Array Oper} {Q : Exit → Act → World → Prop} {k n : Nat} {ds : List Deferred} {o : Oper}
/-! ### One operation -/
theorem Oper.wp_and {o : Oper} {a : Act} {w : World} {K K' : Act → World → Prop} {Q Q' : Exit → Act → World → Prop} (hK : ∀ v w, K (a.put o.dst v) w → K' (a.put o.dst v) w) (hd : ∀ (d : Deferred) w', K ({ a with defers := d :: a.defers }.put o.dst undef) w' → False) (hQ : ∀ e a w, e ≠ .normal → Q e a w → False)
    (h : o.wp P a w K Q) : o.wp P a w K' Q' := by
  unfold Oper.wp at h ⊢
  generalize (execOp a.eval o).run P w = r at h ⊢
  unfold Oper.upon at h ⊢
  split at h
  · exact hK _ _ h
  · exact hK _ _ h
  · exact (hd _ _ h).elim
  · refine h.mono fun e w' hq => ?_
    cases e with
    | returned v => exact hK _ _ hq
    | panicked ch => exact (hQ _ _ _ (by simp) hq).elim
    | outgrown => obtain ⟨a1, w1, h1⟩ := hq; exact (hQ _ _ _ (by simp) h1).elim
  · exact h.mono fun v w' hq => hK _ _ hq
  · exact (hQ _ _ _ (by simp) h).elim
  · exact h.elim
theorem wp_guard {o : Oper} {g : Option (Nat × Bool)} {a : Act} {w : World} {K : Act → World → Prop} {Q : Exit → Act → World → Prop} (h : ({ o with guard := g } : Oper).wp P a w K Q) : o.wp P a w K Q := h
/-- An operation that is wanted, in a frame that fits. -/
theorem op_sound (hE : EnvOk T P C.E) {st' : St T} (hs : stepA P C o ⟨F, H⟩ some (fun _ _ => none) = some st') (hdst : okDst n o.dst = true) (hns : notSelect o = true) (hpre : presA F o = true) (h : Sim T w0 S0 ⟨F, H⟩ F' w S φ) {a : Act} (ha : Fr n ds F' a) :
    o.wp P a w (fun a' w' => ∃ F1, Stands T w0 S0 st' F1 w' ∧ Fr n ds F1 a' ∧ ∃ v, a' = a.put o.dst v) Q := by
  let o' : Oper := { o with guard := none }
  have hd : dec #[o'] 0 n F' = some o' := by
    unfold dec
    have hw : wants #[o'] F' o' = some true := rfl
    have hp : present F' o' = true := presA_rel (o := o') h.fr hpre
    have h1 : okDst n o'.dst = true := hdst
    have h2 : notSelect o' = true := hns
    simp only [List.getElem?_toArray, List.getElem?_cons_zero, hw, hp, h1, h2, Bool.and_self]
  have hs' : stepA P C o' ⟨F, H⟩ some (fun _ _ => none) = some st' := by
    cases o; exact hs
  have hwr := step_sound (Q := fun e a' w' => e = .normal ∧ ∃ F1, Stands T w0 S0 st' F1 w' ∧ Fr n ds F1 a') (ds := ds) hE hd hs' h (fun st hst F1 w1 h1 => by
    simp only [Option.some.injEq] at hst; subst hst
    exact WR.fin (by rfl) fun a1 ha1 => ⟨rfl, F1, h1, ha1⟩) (fun a st hst => by cases hst)
  have hw := hwr a ha
  unfold wpList at hw
  have hwant : Region.wanted o' (yielded #[o'] a.tmps) = true := by
    have := (dec_spec hd).2.2.2.2 ha
    exact this
  have hcons : (#[o'] : Array Oper).toList.drop 0 = [o'] := rfl
  rw [hcons] at hw
  simp only [hwant, if_true] at hw
  rcases hw with hw | ⟨_, a1, w1, h1, _⟩
  · refine wp_guard (g := none) (Oper.wp_and (o := o') (K := wpList P #[o'] _ []) ?_ ?_ ?_ hw)
    · rintro v w1 h1
      unfold wpList at h1
      obtain ⟨_, F1, h2, h3⟩ := h1
      exact ⟨F1, h2, h3, v, rfl⟩
    · rintro d w1 h1
      unfold wpList at h1
      obtain ⟨_, F1, h2, h3⟩ := h1
      have e1 := h3.defers
      have e2 : ({ a with defers := d :: a.defers }.put o'.dst undef).defers = d :: a.defers := by cases o'.dst <;> rfl
      rw [e2, ha.defers] at e1
      exact absurd (congrArg List.length e1) (by simp)
    · rintro e a1 w1 hne ⟨rfl, _⟩
      exact hne rfl
  · cases h1
/-! ### What is not touched stays -/
theorem Sim.frame2 (h : Sim T w0 S0 ⟨F, H⟩ F' w S φ) {tch : List Nat} {nb : Nat} {Fc : AF T} {Fc' : PF} {H1 H2 : List (Ent T.U)} {S1 : List Nat} {φ1 : Nat → RA}
    (hc : Sim T w ⟨tch.flatMap fun e => (φ e).all, S, (List.range nb).map φ⟩ ⟨Fc, H1⟩ Fc' w' S1 φ1) (hnb : nb ≤ H1.length) (hl : H1.length ≤ H.length) (hpin : S0.pin.length ≤ nb)
    (hlv : ∀ e ∈ tch, e < nb ∧ ∃ x, H[e]? = some x ∧ x.live = true) (hfree : ∀ e, nb ≤ e → e < H1.length → H[e]? = some .gone) (hlen : H2.length = H.length)
    (h2 : ∀ (e : Nat) (f : Ent T.U), H2[e]? = some f → (e ∈ tch ∧ H1[e]? = some f) ∨ (nb ≤ e ∧ H1[e]? = some f) ∨ (e ∉ tch ∧ (e < nb ∨ H1.length ≤ e) ∧ H[e]? = some f))
    (hrow : ∀ (e : Nat) (ty : TypeId) (t : Ty) (ys : List (den T.U t)), e ∈ tch → H1[e]? = some (.row ty t ys) → ∃ xs, H[e]? = some (.row ty t xs))
    (hFid : ∀ t a, F.get T t = some a → ∀ i ∈ a.ids, i < nb ∨ H1.length ≤ i) (hHid : ∀ (e : Nat) (f : Ent T.U), H[e]? = some f → (e < nb ∨ H1.length ≤ e) → ∀ i ∈ f.cellIds, i < nb ∨ H1.length ≤ i) :
    ∃ φ2, Sim T w0 S0 ⟨F, H2⟩ F' w' S1 φ2 ∧ ∀ a v, VR T w' S1 φ1 a v → (∀ i ∈ a.ids, i < H1.length) → VR T w' S1 φ2 a v := by
  let φ2 : Nat → RA := fun i => if i < H1.length ∧ (i ∈ tch ∨ nb ≤ i) then φ1 i else φ i
  have hp : ∀ i, i < nb → RSame (φ1 i) (φ i) := fun i hi => (hc.pins i (φ i) (by simp [hi])).1
  have hinE : ∀ i, i < H1.length → (i ∈ tch ∨ nb ≤ i) → φ2 i = φ1 i := fun i hi h => if_pos ⟨hi, h⟩
  have houtE : ∀ i, i ∉ tch → (i < nb ∨ H1.length ≤ i) → φ2 i = φ i := fun i h hi => if_neg fun q => q.2.elim h fun q2 => by have := q.1; omega
  have hin : ∀ i, i < H1.length → RSame (φ2 i) (φ1 i) := fun i hi => by
    by_cases h : i ∈ tch ∨ nb ≤ i
    · exact .of (hinE i hi h)
    · rw [not_or] at h
      rw [houtE i h.1 (by omega)]; exact (hp i (by omega)).symm
  have hout : ∀ i, (i < nb ∨ H1.length ≤ i) → RSame (φ2 i) (φ i) := fun i hi => by
    by_cases h : i ∈ tch
    · have := (hlv i h).1
      rw [hinE i (by omega) (.inl h)]; exact hp i this
    · exact .of (houtE i h hi)
  have hT : ∀ b ∈ tch.flatMap (fun e => (φ e).all), ∃ e ∈ tch, ∃ a, At (φ e) a ∧ a.block = b := by
    intro b hb
    obtain ⟨e, he, hb⟩ := List.mem_flatMap.1 hb
    exact ⟨e, he, mem_all.1 hb⟩
  have hTS : ∀ b ∈ tch.flatMap (fun e => (φ e).all), b ∈ S := by
    intro b hb
    obtain ⟨e, he, a, ha, rfl⟩ := hT b hb
    obtain ⟨_, x, hx, hlx⟩ := hlv e he
    exact liveAt h hx hlx ha
  have hTc : ∀ b ∈ tch.flatMap (fun e => (φ e).all), b ∈ S0.chg ∨ w0.heap.size ≤ b := by
    intro b hb
    obtain ⟨e, he, a, ha, rfl⟩ := hT b hb
    obtain ⟨_, x, hx, hlx⟩ := hlv e he
    exact (h.lives e x hx hlx a ha).2
  have hS1 : ∀ b ∈ S1, b ∈ S ∨ w.heap.size ≤ b := fun b hb => (hc.own b hb).1
  refine ⟨φ2, ⟨?_, ?_, h.chg.step hc.chg hTc, fun b hb => ⟨?_, (hc.own b hb).2⟩, fun b hb q1 q2 => hc.ex b (h.ex b hb q1 q2) (fun hm => (hTc b hm).elim q1 fun hm => by omega) (h.own b (h.ex b hb q1 q2)).2, ?_, fun k r hk => ?_, ?_, ?_, ?_⟩, fun a v hv hi => hv.phiS fun i hm => hin i (hi i hm)⟩
  · intro i a ha
    obtain ⟨v, g1, g2⟩ := h.fr i a ha
    exact ⟨v, g1, (g2.chg T hc.chg hTS hS1).phiS fun j hj => hout j (hFid i a ha j hj)⟩
  · intro i a ha
    obtain ⟨g1, g2⟩ := h.ids i a ha
    refine ⟨fun j hj => by have := g1 j hj; simp only [hlen] at this ⊢; exact this, ?_⟩
    cases a with
    | eptr y sz k c =>
      intro e t xs hx
      have hy := hFid i _ ha y (by simp [AV.ids])
      rcases h2 y _ hx with ⟨g3, g4⟩ | ⟨g3, g4⟩ | ⟨_, _, g4⟩
      · obtain ⟨zs, g5⟩ := hrow y _ _ _ g3 g4
        obtain ⟨q4, q5⟩ := g2 _ _ _ g5
        obtain ⟨_, _, _, n1, _⟩ := h.ents y _ g5
        obtain ⟨_, _, _, n2, _⟩ := hc.ents y _ g4
        rw [(hp y (hlv y g3).1).2.1] at n2
        exact ⟨by omega, q5⟩
      · have := (List.getElem?_eq_some_iff.1 g4).1
        omega
      · exact g2 e t xs g4
    | _ => trivial
  · rcases (hc.own b hb).1 with hb | hb
    · exact (h.own b hb).1
    · exact .inr (Nat.le_trans h.chg.size hb)
  · intro e f hf hfl a ha
    have cal : H1[e]? = some f → At (φ1 e) a → a.block ∈ S1 ∧ (a.block ∈ S0.chg ∨ w0.heap.size ≤ a.block) := fun g4 ha => by
      refine ⟨(hc.lives e f g4 hfl a ha).1, ?_⟩
      rcases (hc.lives e f g4 hfl a ha).2 with hm | hm
      · exact hTc _ hm
      · exact .inr (Nat.le_trans h.chg.size hm)
    rcases h2 e f hf with ⟨g1, g4⟩ | ⟨g1, g4⟩ | ⟨g0, g1, g4⟩
    · rw [hinE e (List.getElem?_eq_some_iff.1 g4).1 (.inl g1)] at ha; exact cal g4 ha
    · rw [hinE e (List.getElem?_eq_some_iff.1 g4).1 (.inr g1)] at ha; exact cal g4 ha
    · rw [houtE e g0 g1] at ha
      have q := h.lives e f g4 hfl a ha
      refine ⟨hc.ex _ q.1 (fun hb => ?_) (h.own _ q.1).2, q.2⟩
      obtain ⟨e', he', a', ha', hbe⟩ := hT _ hb
      obtain ⟨_, x, hx, hlx⟩ := hlv e' he'
      exact h.apart e e' f x g4 hx hfl hlx (fun q => g0 (q ▸ he')) a a' ha ha' hbe.symm
  · obtain ⟨g1, g2⟩ := h.pins k r hk
    have hk' := (List.getElem?_eq_some_iff.1 hk).1
    exact ⟨(hout k (.inl (by omega))).trans g1, by simp only [hlen] at g2 ⊢; exact g2⟩
  · intro e f hf
    have hcE : (e ∈ tch ∨ nb ≤ e) → H1[e]? = some f → EntR T w' S1 φ2 e f := fun q g =>
      (hc.ents e f g).phiE (hinE e (List.getElem?_eq_some_iff.1 g).1 q) fun x hx => hin x (hc.eids e f g x hx)
    rcases h2 e f hf with ⟨q, g⟩ | ⟨q, g⟩ | ⟨g1, g2, g3⟩
    · exact hcE (.inl q) g
    · exact hcE (.inr q) g
    · have hnot : f.live = true → ∀ a, At (φ e) a → a.block ∉ tch.flatMap (fun e => (φ e).all) := fun hl a ha hb => by
        obtain ⟨e', he', a', ha', hbe⟩ := hT _ hb
        obtain ⟨_, x, hx, hlx⟩ := hlv e' he'
        exact h.apart e e' f x g3 hx hl hlx (fun q => g1 (q ▸ he')) a a' ha ha' hbe.symm
      have h1 := (h.ents e f g3).chg T hc.chg hTS hS1 fun hl a ha => ⟨hnot hl a ha, hc.ex _ (liveAt h g3 hl ha) (hnot hl a ha) (h.own _ (liveAt h g3 hl ha)).2⟩
      exact h1.phiE (houtE e g1 g2) fun x hx => hout x (hHid e f g3 g2 x hx)
  · intro e f hf j hj
    simp only [hlen]
    rcases h2 e f hf with ⟨_, g⟩ | ⟨_, g⟩ | ⟨_, _, g⟩
    · have := hc.eids e f g j hj; simp only at this; omega
    · have := hc.eids e f g j hj; simp only at this; omega
    · exact h.eids e f g j hj
  · have side : ∀ (e : Nat) (f : Ent T.U), H2[e]? = some f → (H1[e]? = some f ∧ φ2 e = φ1 e) ∨ (e ∉ tch ∧ H[e]? = some f ∧ φ2 e = φ e) := by
      intro e f hf
      rcases h2 e f hf with ⟨g0, g⟩ | ⟨g0, g⟩ | ⟨g1, g2, g3⟩
      · exact .inl ⟨g, hinE e (List.getElem?_eq_some_iff.1 g).1 (.inl g0)⟩
      · exact .inl ⟨g, hinE e (List.getElem?_eq_some_iff.1 g).1 (.inr g0)⟩
      · exact .inr ⟨g1, g3, houtE e g1 g2⟩
    have cross : ∀ (i j : Nat) (f f' : Ent T.U), H1[i]? = some f → f.live = true → j ∉ tch → H[j]? = some f' → f'.live = true → ∀ a b, At (φ1 i) a → At (φ j) b → a.block ≠ b.block := by
      intro i j f f' hi hfl hj hfj hfl' a b ha hb
      rcases (hc.lives i f hi hfl a ha).2 with hm | hm
      · obtain ⟨e', he', a', ha', hbe⟩ := hT _ hm
        obtain ⟨_, x, hx, hlx⟩ := hlv e' he'
        rw [← hbe]
        exact h.apart e' j x f' hx hfj hlx hfl' (fun q => hj (q ▸ he')) a' b ha' hb
      · have := (h.own _ (liveAt h hfj hfl' hb)).2; omega
    intro i j f f' hf hf' hfl hfl' hij a b ha hb
    rcases side i f hf with ⟨g1, g2⟩ | ⟨g0, g1, g2⟩ <;> rcases side j f' hf' with ⟨k1, k2⟩ | ⟨k0, k1, k2⟩ <;> rw [g2] at ha <;> rw [k2] at hb
    · exact hc.apart i j f f' g1 k1 hfl hfl' hij a b ha hb
    · exact cross i j f f' g1 hfl k0 k1 hfl' a b ha hb
    · exact (cross j i f' f k1 hfl' g0 g1 hfl b a hb ha).symm
    · exact h.apart i j f f' g1 k1 hfl hfl' hij a b ha hb
end
end Go.X
