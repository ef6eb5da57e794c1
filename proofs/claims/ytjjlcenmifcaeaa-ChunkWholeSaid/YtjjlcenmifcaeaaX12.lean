/- Code: an interpreter in continuations, whose loops have fuel; what it answers, the machine does. Nothing here is about one program. -/
import Derived.Test.YtjjlcenmifcaeaaXI
namespace Go.X
open Go.RowKit Go.V

/-- What stands behind code, for each way to leave it. -/
structure Ks (T : Tab) (R : Type) where
  normal : St T → Option R
  exit : Nat → St T → Option R
  ret : St T → Option R
  panic : AV T.U → St T → Option R
/-- A place within code: the way to it from above, last step first. -/
abbrev Pos := List Bool
def eqPos : Pos → Pos → Bool
  | [], [] => true
  | true :: a, true :: b => eqPos a b
  | false :: a, false :: b => eqPos a b
  | _, _ => false
section
variable {T : Tab} {R : Type}
def cutK (m : Nat) (l : Option Cut) (st : St T) (J K : St T → Option R) : Option R :=
  match l with
  | none => K st
  | some c => match c.inl with
    | true => K (dzS c.dz st)
    | false => match c.whole with
    | true => J st
    | false => match trim T m c.l (ownNils T c.nils (dzS c.dz st)) with | some st' => J ⟨st'.F, ownNilsB T c.bn st'.H⟩ | none => none
def lookMs : List (Nat × Nat) → Nat → Option Nat
  | [], _ => none
  | (j, m) :: r, i => match Nat.beq j i with | true => some m | false => lookMs r i
def lookN : List (Pos × Cut) → Pos → Option Cut
  | [], _ => none
  | (j, l) :: r, i => match eqPos j i with | true => some l | false => lookN r i
variable (P : Program) (C : Ctx T) (n : Nat) (cuts : List (Pos × Cut))
def Ks.behind (K : Ks T R) (f : St T → Option R) : Ks T R := ⟨f, K.exit, K.ret, K.panic⟩
def Ks.block (K : Ks T R) (id : Nat) : Ks T R := ⟨K.normal, fun i st => match Nat.beq i id with | true => K.normal st | false => K.exit i st, K.ret, K.panic⟩
section
variable (J : Pos → St T → Option R)
/-- Code, up to the cuts: what stands behind a cut J knows. -/
noncomputable def evC : Code → Pos → Ks T R → St T → Option R
  | .skip, _, K, st => K.normal st
  | .region id ops draw, _, K, st => match draw with
    | false => regA P C ops n K.panic K.normal st
    | true => match lookMs C.ms id with
      | some m => regD T P C ops n (Nat.beq m 1) K.panic K.normal st
      | none => match Region.lexB .any ops with | true => regQ P C ops n K.normal st | false => none
  | .seq x y, q, K, st => evC x (false :: q) (K.behind fun st => cutK C.pin (lookN cuts q) st (J q) (evC y (true :: q) K)) st
  | .cond c x y, q, K, st => match aev T st.F c with
    | some (.cell ⟨.bool, b⟩) => forkB b (evC x (false :: q) K st) (evC y (true :: q) K st)
    | _ => none
  | .block id c, q, K, st => evC c (false :: q) (K.block id) st
  | .exit id, _, K, st => K.exit id st
  | .loop _, q, _, st => cutK C.pin (lookN cuts q) st (J q) fun _ => none
  | .ret, _, K, st => K.ret st
  | _, _, _, _ => none
/-- From a cut on: the right part of what follows each other, a loop's body. -/
noncomputable def evAt : Code → Pos → Ks T R → List Bool → St T → Option R
  | .seq _ y, q, K, [], st => evC P C n cuts J y (true :: q) K st
  | .seq x y, q, K, false :: r, st => evAt x (false :: q) (K.behind fun st => cutK C.pin (lookN cuts q) st (J q) (evC P C n cuts J y (true :: q) K)) r st
  | .seq _ y, q, K, true :: r, st => evAt y (true :: q) K r st
  | .cond _ x _, q, K, false :: r, st => evAt x (false :: q) K r st
  | .cond _ _ y, q, K, true :: r, st => evAt y (true :: q) K r st
  | .block id c, q, K, false :: r, st => evAt c (false :: q) (K.block id) r st
  | .loop c, q, K, [], st => evC P C n cuts J c (false :: q) (K.behind fun st => cutK C.pin (lookN cuts q) st (J q) fun _ => none) st
  | .loop c, q, K, false :: r, st => evAt c (false :: q) (K.behind fun st => cutK C.pin (lookN cuts q) st (J q) fun _ => none) r st
  | _, _, _, _, _ => none
end
/-- What stands behind each cut, with fuel. -/
noncomputable def run (c : Code) (K : Ks T R) (m : Nat) : Pos → St T → Option R := Nat.rec (fun _ _ => none) (fun _ ih q st => evAt P C n cuts ih c [] K q.reverse st) m
end
section
variable {P : Program} {Q : Exit → Act → World → Prop} {a : Act} {w : World}
/-- a loop, ahead of one more round. -/
def lwp (P : Program) (c : Code) (Q : Exit → Act → World → Prop) (a : Act) (w : World) : Prop :=
  ∀ (b : Frame) (k : List Item) (cs : List Frame), ∃ e a' w', Q e a' w' ∧ Arrives P (lone (b.at a (.code c :: .inLoop c :: k)) cs w) b k cs e a' w'
theorem loop_of_lwp {c : Code} (h : lwp P c Q a w) : (Code.loop c).wp P Q a w := by
  intro b k cs
  obtain ⟨e, a', w', hq, harr⟩ := h b k cs
  exact ⟨e, a', w', hq, .of_steps (.one step_loop) harr⟩
theorem lwp_of {c : Code} (h : c.wp P (Exit.then (lwp P c Q) Q) a w) : lwp P c Q a w := by
  intro b k cs
  obtain ⟨e, a₁, w₁, hq, harr⟩ := h b (.inLoop c :: k) cs
  cases e with
  | normal =>
    obtain ⟨e₂, a₂, w₂, hq₂, harr₂⟩ := hq b k cs
    exact ⟨e₂, a₂, w₂, hq₂, .of_steps (Steps.trans harr (.one step_inLoop)) harr₂⟩
  | exit id => exact ⟨_, a₁, w₁, hq, .pass (x := .inLoop c) rfl (fun _ _ => .inl (by simp)) harr⟩
  | goto l => exact ⟨_, a₁, w₁, hq, .pass (x := .inLoop c) rfl (fun _ _ => .inl (by simp)) harr⟩
  | ret => exact ⟨_, a₁, w₁, hq, .pass (x := .inLoop c) rfl (fun _ _ => .inl (by simp)) harr⟩
  | panic ch => exact ⟨_, a₁, w₁, hq, .pass (x := .inLoop c) rfl (fun _ _ => .inl (by simp)) harr⟩
  | outgrown => exact ⟨_, a₁, w₁, hq, .pass (x := .inLoop c) rfl (fun _ _ => .inl (by simp)) harr⟩
end
section
variable {T : Tab} {P : Program} {C : Ctx T} {w : World} {S : List Nat} {φ : Nat → RA} {w0 : World} {S0 : Ow} {F : AF T} {H : List (Ent T.U)} {F' : PF}
variable {Q : Exit → Act → World → Prop} {n : Nat} {cuts : List (Pos × Cut)} {ds : List Deferred} {R : Type} {r : R}
/-- a way that code may be left. -/
def SK (n : Nat) (ds : List Deferred) (w0 : World) (S0 : Ow) (X : Act → World → Prop) (st : St T) : Prop := ∀ F1 w1, Stands T w0 S0 st F1 w1 → ∀ a, Fr n ds F1 a → X a w1
structure KsOk (Q : Exit → Act → World → Prop) (n : Nat) (ds : List Deferred) (w0 : World) (S0 : Ow) (r : R) (K : Ks T R) : Prop where
  normal : ∀ st, K.normal st = some r → SK n ds w0 S0 (Q .normal) st
  exit : ∀ i st, K.exit i st = some r → SK n ds w0 S0 (Q (.exit i)) st
  ret : ∀ st, K.ret st = some r → SK n ds w0 S0 (Q .ret) st
  panic : ∀ a st, K.panic a st = some r → PKont Q n ds w0 S0 a st
theorem cutK_sound {m : Nat} {l : Option Cut} {st : St T} {J K : St T → Option R} (hm : S0.pin.length ≤ m) (h : cutK m l st J K = some r) (hs : Stands T w0 S0 st F' w) : ∃ st', (K st' = some r ∨ J st' = some r) ∧ Stands T w0 S0 st' F' w := by
  unfold cutK at h
  split at h
  · exact ⟨st, .inl h, hs⟩
  · split at h
    · exact ⟨_, .inl h, dzS_sound _ hs⟩
    · split at h
      · exact ⟨st, .inr h, hs⟩
      · split at h
        · rename_i c _ _ _ _ _ st' ht; exact ⟨_, .inr h, ownNilsB_sound c.bn (trim_sound hm (ownNils_sound _ (dzS_sound _ hs)) ht)⟩
        · cases h
/-- What J knows of the cuts within code is so. -/
def JOk (P : Program) (n : Nat) (ds : List Deferred) (w0 : World) (S0 : Ow) (r : R) (J : Pos → St T → Option R) : Code → Pos → (Exit → Act → World → Prop) → Prop
  | .seq x y, q, Q => (∀ st, J q st = some r → SK n ds w0 S0 (y.wp P Q) st) ∧ JOk P n ds w0 S0 r J x (false :: q) (Exit.then (y.wp P Q) Q) ∧ JOk P n ds w0 S0 r J y (true :: q) Q
  | .cond _ x y, q, Q => JOk P n ds w0 S0 r J x (false :: q) Q ∧ JOk P n ds w0 S0 r J y (true :: q) Q
  | .block id c, q, Q => JOk P n ds w0 S0 r J c (false :: q) (Exit.inBlock id Q)
  | .loop c, q, Q => (∀ st, J q st = some r → SK n ds w0 S0 (lwp P c Q) st) ∧ JOk P n ds w0 S0 r J c (false :: q) (Exit.then (lwp P c Q) Q)
  | _, _, _ => True
theorem KsOk.block {K : Ks T R} (hK : KsOk Q n ds w0 S0 r K) (id : Nat) : KsOk (Exit.inBlock id Q) n ds w0 S0 r (K.block id) := by
  refine ⟨hK.normal, ?_, hK.ret, hK.panic⟩
  intro i st1 h1 F1 w1 hs1 a ha
  simp only [Ks.block] at h1
  simp only [Exit.inBlock]
  split at h1
  · rename_i hb
    rw [if_pos (Nat.eq_of_beq_eq_true hb)]
    exact hK.normal st1 h1 F1 w1 hs1 a ha
  · rename_i hb
    rw [if_neg (fun e => by subst e; simp at hb)]
    exact hK.exit i st1 h1 F1 w1 hs1 a ha
theorem KsOk.behind {K : Ks T R} (hK : KsOk Q n ds w0 S0 r K) {X : Act → World → Prop} {f : St T → Option R} (hf : ∀ st, f st = some r → SK n ds w0 S0 X st) : KsOk (Exit.then X Q) n ds w0 S0 r (K.behind f) :=
  ⟨hf, fun i st h F1 w1 hs a ha => hK.exit i st h F1 w1 hs a ha, fun st h F1 w1 hs a ha => hK.ret st h F1 w1 hs a ha, fun a st h F1 w1 S1 φ1 v hs hv hok act hact => hK.panic a st h F1 w1 S1 φ1 v hs hv hok act hact⟩
variable {J : Pos → St T → Option R}
theorem evC_sound (hm : P.follows .mixedOrders = true) (hp : S0.pin.length ≤ C.pin) (hE : EnvOk T P C.E) : ∀ (c : Code) (q : Pos) (K : Ks T R) (st : St T) (Q : Exit → Act → World → Prop) (F' : PF) (w : World), evC P C n cuts J c q K st = some r → KsOk Q n ds w0 S0 r K → JOk P n ds w0 S0 r J c q Q → Stands T w0 S0 st F' w → CW P c Q n ds F' w
  | .skip, q, K, st, Q, F', w, h, hK, hJ, hs => .skip fun a ha => hK.normal st h F' w hs a ha
  | .region id ops draw, q, K, st, Q, F', w, h, hK, hJ, hs => by
    obtain ⟨S, φ, hs⟩ := hs
    unfold evC at h
    cases draw with
    | false => exact .region (reg_sound hE (fun st hst => hK.normal st hst) hK.panic h hs)
    | true =>
      simp only at h
      split at h
      · exact regD_sound hE hm (fun st hst => hK.normal st hst) hK.panic h hs
      · split at h
        · rename_i hB
          exact .regionQ hm hB (regQ_sound hE (fun st hst => hK.normal st hst) h hs)
        · cases h
  | .seq x y, q, K, st, Q, F', w, h, hK, hJ, hs => by
    unfold evC at h
    obtain ⟨j1, j2, j3⟩ := hJ
    have := evC_sound hm hp hE x _ _ st _ F' w h (hK.behind (X := y.wp P Q) fun st1 h1 F1 w1 hs1 a ha => by
      obtain ⟨st2, h2, hs2⟩ := cutK_sound hp h1 hs1
      rcases h2 with h2 | h2
      · exact evC_sound hm hp hE y _ _ st2 Q F1 w1 h2 hK j3 hs2 a ha
      · exact j1 st2 h2 F1 w1 hs2 a ha) j2 hs
    exact fun a ha => wp_seq (this a ha)
  | .cond c x y, q, K, st, Q, F', w, h, hK, hJ, hs => by
    unfold evC at h
    split at h
    · rename_i b hc
      obtain ⟨S, φ, hs'⟩ := hs
      obtain ⟨v, h1, h2⟩ := aev_rel hs'.fr hc
      have := cbool_rel h2; subst this
      refine .cond b h1 (fun hb => ?_) fun hb => ?_
      · rcases forkB_cases h with ⟨_, h⟩ | ⟨hb', _⟩
        · exact evC_sound hm hp hE x _ K st Q F' w h hK hJ.1 ⟨S, φ, hs'⟩
        · exact absurd (hb.symm.trans hb') (by simp)
      · rcases forkB_cases h with ⟨hb', _⟩ | ⟨_, h⟩
        · exact absurd (hb.symm.trans hb') (by simp)
        · exact evC_sound hm hp hE y _ K st Q F' w h hK hJ.2 ⟨S, φ, hs'⟩
    · cases h
  | .block id c, q, K, st, Q, F', w, h, hK, hJ, hs => by
    unfold evC at h
    exact .block (evC_sound hm hp hE c _ _ st _ F' w h (hK.block id) hJ hs)
  | .exit id, q, K, st, Q, F', w, h, hK, hJ, hs => .exit fun a ha => hK.exit id st h F' w hs a ha
  | .ret, q, K, st, Q, F', w, h, hK, hJ, hs => .ret fun a ha => hK.ret st h F' w hs a ha
  | .loop c, q, K, st, Q, F', w, h, hK, hJ, hs => by
    unfold evC at h
    obtain ⟨st1, h1, hs1⟩ := cutK_sound hp h hs
    rcases h1 with h1 | h1
    · cases h1
    · exact fun a ha => loop_of_lwp (hJ.1 st1 h1 F' w hs1 a ha)
  | .rangeFunc .., _, _, _, _, _, _, h, _, _, _ => by unfold evC at h; cases h
  | .scope _, _, _, _, _, _, _, h, _, _, _ => by unfold evC at h; cases h
  | .label _, _, _, _, _, _, _, h, _, _, _ => by unfold evC at h; cases h
  | .goto _, _, _, _, _, _, _, h, _, _, _ => by unfold evC at h; cases h
  | .refuse _, _, _, _, _, _, _, h, _, _, _ => by unfold evC at h; cases h
theorem JOk.none : ∀ (c : Code) (q : Pos) (Q : Exit → Act → World → Prop), JOk P n ds w0 S0 r (fun (_ : Pos) (_ : St T) => Option.none) c q Q
  | .seq x y, q, Q => ⟨fun st h => (by cases h), JOk.none x _ _, JOk.none y _ _⟩
  | .cond _ x y, q, Q => ⟨JOk.none x _ _, JOk.none y _ _⟩
  | .block id c, q, Q => JOk.none c _ _
  | .loop c, q, Q => ⟨fun st h => (by cases h), JOk.none c _ _⟩
  | .skip, _, _ => trivial
  | .region .., _, _ => trivial
  | .exit _, _, _ => trivial
  | .ret, _, _ => trivial
  | .rangeFunc .., _, _ => trivial
  | .scope _, _, _ => trivial
  | .label _, _, _ => trivial
  | .goto _, _, _ => trivial
  | .refuse _, _, _ => trivial
theorem JOk.next (hm : P.follows .mixedOrders = true) (hp : S0.pin.length ≤ C.pin) (hE : EnvOk T P C.E) {top : Code} {K0 : Ks T R} {J' : Pos → St T → Option R} (hJ' : ∀ q st, J' q st = evAt P C n cuts J top [] K0 q.reverse st) :
    ∀ (c : Code) (q : Pos) (K : Ks T R) (Q : Exit → Act → World → Prop), (∀ s st, evAt P C n cuts J top [] K0 (q.reverse ++ s) st = evAt P C n cuts J c q K s st) → KsOk Q n ds w0 S0 r K → JOk P n ds w0 S0 r J c q Q → JOk P n ds w0 S0 r J' c q Q
  | .seq x y, q, K, Q, hev, hK, hJ => by
    obtain ⟨j1, j2, j3⟩ := hJ
    have hKb : KsOk (Exit.then (y.wp P Q) Q) n ds w0 S0 r (K.behind fun st => cutK C.pin (lookN cuts q) st (J q) (evC P C n cuts J y (true :: q) K)) := hK.behind (X := y.wp P Q) fun st1 h1 F1 w1 hs1 a ha => by
      obtain ⟨st2, h2, hs2⟩ := cutK_sound hp h1 hs1
      rcases h2 with h2 | h2
      · exact evC_sound hm hp hE y _ _ st2 Q F1 w1 h2 hK j3 hs2 a ha
      · exact j1 st2 h2 F1 w1 hs2 a ha
    refine ⟨?_, JOk.next hm hp hE hJ' x _ _ _ (fun s st => ?_) hKb j2, JOk.next hm hp hE hJ' y _ _ _ (fun s st => ?_) hK j3⟩
    · intro st h F1 w1 hs a ha
      rw [hJ', ← List.append_nil q.reverse, hev] at h
      exact evC_sound hm hp hE y _ _ st Q F1 w1 h hK j3 hs a ha
    · rw [List.reverse_cons, List.append_assoc]; exact hev _ st
    · rw [List.reverse_cons, List.append_assoc]; exact hev _ st
  | .cond _ x y, q, K, Q, hev, hK, hJ => by
    refine ⟨JOk.next hm hp hE hJ' x _ _ _ (fun s st => ?_) hK hJ.1, JOk.next hm hp hE hJ' y _ _ _ (fun s st => ?_) hK hJ.2⟩
    · rw [List.reverse_cons, List.append_assoc]; exact hev _ st
    · rw [List.reverse_cons, List.append_assoc]; exact hev _ st
  | .block id c, q, K, Q, hev, hK, hJ => by
    refine JOk.next hm hp hE hJ' c _ _ _ (fun s st => ?_) (hK.block id) hJ
    rw [List.reverse_cons, List.append_assoc]; exact hev _ st
  | .loop c, q, K, Q, hev, hK, hJ => by
    obtain ⟨j1, j2⟩ := hJ
    have hKb : KsOk (Exit.then (lwp P c Q) Q) n ds w0 S0 r (K.behind fun st => cutK C.pin (lookN cuts q) st (J q) fun _ => Option.none) := hK.behind (X := lwp P c Q) fun st1 h1 F1 w1 hs1 a ha => by
      obtain ⟨st2, h2, hs2⟩ := cutK_sound hp h1 hs1
      rcases h2 with h2 | h2
      · cases h2
      · exact j1 st2 h2 F1 w1 hs2 a ha
    refine ⟨?_, JOk.next hm hp hE hJ' c _ _ _ (fun s st => ?_) hKb j2⟩
    · intro st h F1 w1 hs a ha
      rw [hJ', ← List.append_nil q.reverse, hev] at h
      exact lwp_of (evC_sound hm hp hE c _ _ st _ F1 w1 h hKb j2 hs a ha)
    · rw [List.reverse_cons, List.append_assoc]; exact hev _ st
  | .skip, _, _, _, _, _, _ => trivial
  | .region .., _, _, _, _, _, _ => trivial
  | .exit _, _, _, _, _, _, _ => trivial
  | .ret, _, _, _, _, _, _ => trivial
  | .rangeFunc .., _, _, _, _, _, _ => trivial
  | .scope _, _, _, _, _, _, _ => trivial
  | .label _, _, _, _, _, _, _ => trivial
  | .goto _, _, _, _, _, _, _ => trivial
  | .refuse _, _, _, _, _, _, _ => trivial
theorem JOk.run (hm : P.follows .mixedOrders = true) (hp : S0.pin.length ≤ C.pin) (hE : EnvOk T P C.E) {top : Code} {K0 : Ks T R} {Q : Exit → Act → World → Prop} (hK : KsOk Q n ds w0 S0 r K0) : ∀ m : Nat, JOk P n ds w0 S0 r (Go.X.run P C n cuts top K0 m) top [] Q
  | 0 => JOk.none top [] Q
  | m + 1 => JOk.next hm hp hE (fun _ _ => rfl) top [] K0 Q (fun _ _ => rfl) hK (JOk.run hm hp hE hK m)
end
end Go.X
