/- What is owned becomes a list for good. Nothing here is about one program. -/
import Derived.Test.YtjjlcenmifcaeaaG2
namespace Go.X
open Go.RowKit Go.V

section
variable (T : Tab)
/-- a slot is seen as a typed thing from now on; the entries in it are gone. -/
def frzS {R : Type} (t : Ty) (x : Operand) (st : St T) (K : St T → Option R) : Option R :=
  match x with
  | .tmp s => match st.F.get T s with
    | some a => rdF T st.H t a fun y => K ⟨(s, toAV T t y) :: st.F, goneL T st.H a.ids⟩
    | none => none
  | _ => none
/-- results that become lists for good. -/
def fixZ {R : Type} : List (Nat × Ty) → List (AV T.U) → List (Ent T.U) → (List (AV T.U) → List (Ent T.U) → Option R) → Option R
  | [], as, H, K => K as H
  | (j, t) :: r, as, H, K => match as[j]? with
    | some a => rdF T H t a fun y => fixZ r (as.set j (toAV T t y)) (goneL T H a.ids) K
    | none => none
def placeIn (ty : Ty) (c : Nat) (a : AV T.U) : Option Ty :=
  match a with
  | .agg _ => match Nat.beq c 0 with | true => some ty | false => none
  | _ => match (flat T ty (dflt T ty))[c]? with | some x => some x.t | none => none
/-- of what type a place's things are, where they are typed. -/
def placeTy (H : List (Ent T.U)) (p a : AV T.U) : Option Ty :=
  match p with
  | .eptr i _ _ c => match H[i]? with | some (.row _ ty _) => placeIn T ty c a | _ => none
  | .aptr i o _ _ _ c => match H[i]? with
    | some (.blk _ cs) => match locB T cs o with
      | some (b :: _) => match arrI b with | some ⟨ty, _, _⟩ => placeIn T ty c a | none => none
      | _ => none
    | _ => none
  | _ => none
def frzPs {R : Type} (te : Ty) : List (Nat × Operand) → St T → (St T → Option R) → Option R
  | [], st, K => K st
  | (_, x) :: r, st, K => match aev T st.F x with
    | some a => match cellsOf T (cellsA T a) with
      | some _ => frzPs te r st K
      | none => frzS T te x st fun st => frzPs te r st K
    | none => none
end
section
variable {T : Tab} (P : Program) (C : Ctx T) {R : Type}
def neTmp : Operand → Operand → Bool | .tmp s, .tmp q => !(Nat.beq s q) | _, _ => true
/-- a step; what is stored into typed things becomes typed ahead of it. -/
def stepE (o : Oper) (st : St T) (K : St T → Option R) (Kp : AV T.U → St T → Option R) : Option R :=
  match o.op with
  | .store _ x y => match aev T st.F x, aev T st.F y with
    | some p, some a => match cellsOf T (cellsA T a), placeTy T st.H p a with
      | none, some te => (match neTmp y x with | true => frzS T te y st fun st => stepA P C o st K Kp | false => none)
      | _, _ => stepA P C o st K Kp
    | _, _ => none
  | .buildSlice t _ ps => match C.ty t, aevL T st.F (ps.toList.map Prod.snd) with
    | some te, some _ => frzPs T te ps.toList st fun st => stepA P C o st K Kp
    | _, _ => stepA P C o st K Kp
  | .mapUpdate t m x v => match C.ty t, aev T st.F v with
    | some te, some a => (match cellsOf T (cellsA T a) with
      | none => (match neTmp v m && neTmp v x with | true => frzS T te v st fun st => stepA P C o st K Kp | false => none)
      | some _ => stepA P C o st K Kp)
    | _, _ => stepA P C o st K Kp
  | _ => stepA P C o st K Kp
/-- the same, rows of structs whose lists lie in blocks of their own seen to. -/
def stepF (o : Oper) (st : St T) (K : St T → Option R) (Kp : AV T.U → St T → Option R) : Option R :=
  match stepR P C o st K with
  | some z => z
  | none => stepE P C o st K Kp
end
section
variable {T : Tab} {P : Program} {C : Ctx T} {w w' : World} {S S' : List Nat} {φ φ' : Nat → RA} {w0 : World} {S0 : Ow} {F : AF T} {H : List (Ent T.U)} {F' : PF}
variable {ops : Array Oper} {Q : Exit → Act → World → Prop} {k n : Nat} {ds : List Deferred} {o : Oper}
/-- a slot is seen otherwise. -/
theorem Sim.seen (h : Sim T w0 S0 ⟨F, H⟩ F' w S φ) {d : Nat} {a : AV T.U} {v : Value} (hv : F'.get d = some v) (hr : VR T w S φ a v) (hok : okA H a) : Sim T w0 S0 ⟨(d, a) :: F, H⟩ F' w S φ := by
  have hg : ∀ i b, AF.get T ((d, a) :: F) i = some b → (i = d ∧ b = a) ∨ F.get T i = some b := by
    intro i b hb
    simp only [AF.get] at hb
    split at hb
    · rename_i he
      have := Nat.eq_of_beq_eq_true he; subst this
      exact .inl ⟨rfl, (Option.some.inj hb).symm⟩
    · exact .inr hb
  refine ⟨fun i b hb => ?_, fun i b hb => ?_, h.chg, h.own, h.ex, h.lives, h.pins, h.ents, h.eids, h.apart⟩
  · rcases hg i b hb with ⟨rfl, rfl⟩ | hb
    · exact ⟨v, hv, hr⟩
    · exact h.fr i b hb
  · rcases hg i b hb with ⟨rfl, rfl⟩ | hb
    · exact hok
    · exact h.ids i b hb
/-- an entry is gone; its block does not change any more. -/
theorem Sim.frz1 (h : Sim T w0 S0 ⟨F, H⟩ F' w S φ) {i : Nat} {e : Ent T.U} (hi : H[i]? = some e) (hl : e.live = true) :
    Sim T w0 S0 ⟨F, H.set i .gone⟩ F' w (S.filter fun b => !(φ i).all.contains b) φ := by
  have hsub : ∀ b ∈ S.filter (fun b => !(φ i).all.contains b), b ∈ S := fun b hb => (List.mem_filter.1 hb).1
  have hin : ∀ {b : Nat}, b ∈ S → (∀ a, At (φ i) a → a.block ≠ b) → b ∈ S.filter fun b => !(φ i).all.contains b := by
    intro b hb hne
    refine List.mem_filter.2 ⟨hb, ?_⟩
    cases hq : (φ i).all.contains b with
    | false => rfl
    | true =>
      obtain ⟨a, ha, he⟩ := mem_all.1 (List.contains_iff_mem.1 hq)
      exact absurd he (hne a ha)
  refine ⟨?_, ?_, h.chg, fun b hb => h.own b (hsub b hb), ?_, ?_, ?_, ?_, ?_, ?_⟩
  · intro j a ha
    obtain ⟨v, h1, h2⟩ := h.fr j a ha
    exact ⟨v, h1, h2.chg T (Chg.refl [] w) (by simp) fun b hb => .inl (hsub b hb)⟩
  · intro j a ha
    obtain ⟨h1, h2⟩ := h.ids j a ha
    refine ⟨fun x hx => by simpa using h1 x hx, ?_⟩
    cases a with
    | eptr y sz k c => intro e t xs hx; exact h2 e t xs (set_gone hx rfl).2
    | _ => trivial
  · intro b hb q1 q2
    refine hin (h.ex b hb q1 q2) fun a ha he => ?_
    rcases (h.lives i e hi hl a ha).2 with hm | hm
    · exact q1 (he ▸ hm)
    · omega
  · intro j f hf hfl a ha
    obtain ⟨hne, hf'⟩ := set_gone hf hfl
    exact ⟨hin (h.lives j f hf' hfl a ha).1 fun b hb he => h.apart i j e f hi hf' hl hfl (Ne.symm hne) b a hb ha he, (h.lives j f hf' hfl a ha).2⟩
  · intro k r hk
    obtain ⟨h1, h2⟩ := h.pins k r hk
    exact ⟨h1, by simpa using h2⟩
  · intro j f hf
    by_cases hfl : f.live = true
    · obtain ⟨hne, hf'⟩ := set_gone hf hfl
      exact (h.ents j f hf').chg T (Chg.refl [] w) (by simp) (fun b hb => .inl (hsub b hb)) fun hl' a ha => ⟨by simp, hin (liveAt h hf' hl' ha) fun b hb he => h.apart i j e f hi hf' hl hl' (Ne.symm hne) b a hb ha he⟩
    · cases f <;> first | exact trivial | exact absurd rfl hfl
  · intro j f hf x hx
    cases f with
    | gone => cases hx
    | _ => have := h.eids j _ (set_gone hf rfl).2 x hx; simpa using this
  · intro j k f f' hf hf' hl1 hl2 hjk
    exact h.apart j k f f' (set_gone hf hl1).2 (set_gone hf' hl2).2 hl1 hl2 hjk
theorem Sim.frzL : ∀ (ids : List Nat) {H : List (Ent T.U)} {S : List Nat}, Sim T w0 S0 ⟨F, H⟩ F' w S φ →
    ∃ S', (∀ b ∈ S', b ∈ S) ∧ (∀ i ∈ ids, ∀ e, H[i]? = some e → e.live = true → ∀ a, At (φ i) a → a.block ∉ S') ∧ Sim T w0 S0 ⟨F, goneL T H ids⟩ F' w S' φ
  | [], H, S, h => ⟨S, fun _ h => h, by simp, h⟩
  | i :: r, H, S, h => by
    have step : ∃ S1, (∀ b ∈ S1, b ∈ S) ∧ (∀ e, H[i]? = some e → e.live = true → ∀ a, At (φ i) a → a.block ∉ S1) ∧ Sim T w0 S0 ⟨F, H.set i .gone⟩ F' w S1 φ := by
      cases hi : H[i]? with
      | none =>
        refine ⟨S, fun _ h => h, by simp, ?_⟩
        rw [List.set_eq_of_length_le (by simpa using hi)]; exact h
      | some e =>
        cases hl : e.live with
        | true =>
          refine ⟨_, fun b hb => (List.mem_filter.1 hb).1, fun e' he' _ a ha hm => ?_, h.frz1 hi hl⟩
          have := (List.mem_filter.1 hm).2
          simp at this
          exact this (mem_all.2 ⟨a, ha, rfl⟩)
        | false =>
          have : e = .gone := by cases e <;> first | rfl | cases hl
          subst this
          refine ⟨S, fun _ h => h, fun e' he' hl' => ?_, ?_⟩
          · simp only [Option.some.injEq] at he'; subst he'; cases hl'
          · have hs : H.set i .gone = H := by
              obtain ⟨hlt, hg⟩ := List.getElem?_eq_some_iff.1 hi
              rw [← hg, List.set_getElem_self]
            rw [hs]; exact h
    obtain ⟨S1, k1, k2, k3⟩ := step
    obtain ⟨S2, q1, q2, q3⟩ := Sim.frzL r k3
    refine ⟨S2, fun b hb => k1 b (q1 b hb), fun j hj e he hl a ha hm => ?_, q3⟩
    by_cases hji : j = i
    · subst hji; exact k2 e he hl a ha (q1 _ hm)
    · rcases List.mem_cons.1 hj with rfl | hj
      · exact hji rfl
      · exact q2 j hj e (by rw [List.getElem?_set_ne (Ne.symm hji)]; exact he) hl a ha hm
theorem ofAV_ids {t : Ty} {a : AV T.U} {x : den T.U t} (h : ofAV T t a = some x) : a.ids = [] := by
  cases a with
  | cell c => rfl
  | raw v => rfl
  | agg cs =>
    cases t <;> simp only [ofAV, reduceCtorEq] at h
    split at h
    · rename_i l hl
      rw [cellsOf_map hl, AV.ids, idsL_cells]
    · cases h
  | _ => cases t <;> cases h
theorem rdN_ids {R : Type} {r : R} {t : Ty} {a : AV T.U} {K : den T.U t → Option R} (h : rdN T H t a K = some r) : ∀ i ∈ a.ids, ∃ e, H[i]? = some e ∧ e.live = true := by
  unfold rdN at h
  split at h
  · intro i hi; cases hi
  · intro i hi; cases hi
  · intro j hj
    simp only [AV.ids, List.mem_singleton] at hj; subst hj
    split at h
    · rename_i hi; exact ⟨_, hi, rfl⟩
    · cases h
  · cases h
theorem rdF1_ids {R : Type} {r : R} {t : Ty} {a : AV T.U} {K : den T.U t → Option R} (h : rdF1 T H t a K = some r) : ∀ i ∈ a.ids, ∃ e, H[i]? = some e ∧ e.live = true := by
  unfold rdF1 at h
  split at h
  · intro j hj
    simp only [AV.ids, List.mem_singleton] at hj; subst hj
    split at h
    · rename_i hi; exact ⟨_, hi, rfl⟩
    · cases h
  · intro j hj
    simp only [AV.ids, List.mem_singleton] at hj; subst hj
    split at h
    · rename_i hi; exact ⟨_, hi, rfl⟩
    · cases h
  · intro j hj
    simp only [AV.ids, List.mem_singleton] at hj; subst hj
    split at h
    · rename_i hi; exact ⟨_, hi, rfl⟩
    · cases h
  · split at h
    · rename_i x hx; rw [ofAV_ids hx]; intro i hi; cases hi
    · exact rdN_ids h
theorem rdCs_ids {R : Type} {r : R} : ∀ {ts : List Ty} {as : List (AV T.U)} {K : List (Cell T.U) → Option R}, rdCs T H ts as K = some r → ∀ i ∈ idsL as, ∃ e, H[i]? = some e ∧ e.live = true
  | [], [], K, h => by intro i hi; cases hi
  | [], _ :: _, _, h => by cases h
  | _ :: _, [], _, h => by cases h
  | t :: ts, a :: as, K, h => by
    have h : (match t.one with | true => rdF1 T H t a (fun x => rdCs T H ts as fun l => K (⟨t, x⟩ :: l)) | false => none) = some r := h
    split at h <;> try (cases h; done)
    intro i hi
    rw [idsL] at hi
    rcases List.mem_append.1 hi with hi | hi
    · exact rdF1_ids h i hi
    · obtain ⟨x, h1, h2⟩ := rdF1_det h
      exact rdCs_ids h1 i hi
theorem rdF_ids {R : Type} {r : R} {t : Ty} {a : AV T.U} {K : den T.U t → Option R} (h : rdF T H t a K = some r) : ∀ i ∈ a.ids, ∃ e, H[i]? = some e ∧ e.live = true := by
  unfold rdF at h
  split at h
  · intro i hi; rw [AV.ids] at hi; exact rdCs_ids h i hi
  · exact rdF1_ids h
theorem toAV_idsZ (t : Ty) (x : den T.U t) : (toAV T t x).ids = [] := by
  cases t with
  | user i => show idsL ((T.cells i x).map AV.cell) = []; exact idsL_cells _
  | _ => rfl
theorem frzS_sound {R : Type} {r : R} {t : Ty} {x : Operand} {st : St T} {K : St T → Option R} (h : frzS T t x st K = some r) (hs : Sim T w0 S0 st F' w S φ) : ∃ st' S', K st' = some r ∧ Sim T w0 S0 st' F' w S' φ ∧ ∀ t, (st.F.get T t).isSome = true → (st'.F.get T t).isSome = true := by
  obtain ⟨F, H⟩ := st
  unfold frzS at h
  split at h <;> try (cases h; done)
  rename_i s
  split at h <;> try (cases h; done)
  rename_i a ha
  obtain ⟨v, h1, h2⟩ := hs.fr s a ha
  obtain ⟨S', k1, k2, k3⟩ := Sim.frzL a.ids hs
  obtain ⟨y, h3, h4⟩ := rdF_relS (S' := S') h (fun i hi en hen _ => hs.ents i en hen) h2 φ k1 fun i hi ad had => by
    obtain ⟨e, he, hl⟩ := rdF_ids h i hi
    exact k2 i hi e he hl ad (.inl had)
  refine ⟨_, S', h3, k3.seen h1 h4 (okA_notEp ?_ ?_), fun q hq => ?_⟩
  · cases t <;> rfl
  · rw [toAV_idsZ]; intro i hi; cases hi
  · simp only [AF.get]; split
    · rfl
    · exact hq
theorem frzPs_sound {R : Type} {r : R} {te : Ty} : ∀ {ps : List (Nat × Operand)} {st : St T} {K : St T → Option R} {S : List Nat}, frzPs T te ps st K = some r → Sim T w0 S0 st F' w S φ → ∃ st' S', K st' = some r ∧ Sim T w0 S0 st' F' w S' φ ∧ ∀ t, (st.F.get T t).isSome = true → (st'.F.get T t).isSome = true
  | [], st, K, S, h, hs => ⟨st, S, h, hs, fun _ h => h⟩
  | (_, x) :: ps, st, K, S, h, hs => by
    unfold frzPs at h
    split at h <;> try (cases h; done)
    split at h
    · exact frzPs_sound h hs
    · obtain ⟨st', S', h1, h2, h3⟩ := frzS_sound h hs
      obtain ⟨st2, S2, k1, k2, k3⟩ := frzPs_sound h1 h2
      exact ⟨st2, S2, k1, k2, fun t ht => k3 t (h3 t ht)⟩
theorem stepE_sound {R : Type} {r : R} (hE : EnvOk T P C.E) (hd : dec ops k n F' = some o) {K : St T → Option R} {Kp : AV T.U → St T → Option R} (hs : stepE P C o ⟨F, H⟩ K Kp = some r) (h : Sim T w0 S0 ⟨F, H⟩ F' w S φ)
    (HK : ∀ st, K st = some r → Kont P ops Q (k + 1) n ds w0 S0 st) (HP : ∀ a st, Kp a st = some r → PKont Q n ds w0 S0 a st) : WR P ops Q k n ds F' w := by
  unfold stepE at hs
  split at hs
  · split at hs <;> try (cases hs; done)
    split at hs
    · split at hs <;> try (cases hs; done)
      obtain ⟨⟨F2, H2⟩, S2, h1, h2, _⟩ := frzS_sound hs h
      exact step_sound hE hd h1 h2 HK HP
    · exact step_sound hE hd hs h HK HP
  · split at hs
    · obtain ⟨⟨F2, H2⟩, S2, h1, h2, _⟩ := frzPs_sound hs h
      exact step_sound hE hd h1 h2 HK HP
    · exact step_sound hE hd hs h HK HP
  · split at hs
    · split at hs
      · split at hs <;> try (cases hs; done)
        obtain ⟨⟨F2, H2⟩, S2, h1, h2, _⟩ := frzS_sound hs h
        exact step_sound hE hd h1 h2 HK HP
      · exact step_sound hE hd hs h HK HP
    · exact step_sound hE hd hs h HK HP
  · exact step_sound hE hd hs h HK HP
theorem stepF_sound {R : Type} {r : R} (hE : EnvOk T P C.E) (hd : dec ops k n F' = some o) {K : St T → Option R} {Kp : AV T.U → St T → Option R} (hs : stepF P C o ⟨F, H⟩ K Kp = some r) (h : Sim T w0 S0 ⟨F, H⟩ F' w S φ)
    (HK : ∀ st, K st = some r → Kont P ops Q (k + 1) n ds w0 S0 st) (HP : ∀ a st, Kp a st = some r → PKont Q n ds w0 S0 a st) : WR P ops Q k n ds F' w := by
  unfold stepF at hs
  split at hs
  · rename_i z hz; exact stepR_sound hd hz hs h HK
  · exact stepE_sound hE hd hs h HK HP
theorem fixZ_sound {R : Type} {r : R} {w0 : World} {S0 : Ow} {F : AF T} {F' : PF} {w : World} {φ : Nat → RA} : ∀ (l : List (Nat × Ty)) {as : List (AV T.U)} {us : List Value} {H : List (Ent T.U)} {S : List Nat} {K : List (AV T.U) → List (Ent T.U) → Option R}, fixZ T l as H K = some r → Sim T w0 S0 ⟨F, H⟩ F' w S φ → VRL T w S φ as us →
    ∃ as' H' S', K as' H' = some r ∧ Sim T w0 S0 ⟨F, H'⟩ F' w S' φ ∧ VRL T w S' φ as' us
  | [], as, us, H, S, K, h, hs, hv => ⟨as, H, S, h, hs, hv⟩
  | (j, t) :: l, as, us, H, S, K, h, hs, hv => by
    unfold fixZ at h
    split at h <;> try (cases h; done)
    rename_i a ha
    obtain ⟨v, h1, h2⟩ := hv.get T ha
    obtain ⟨S', k1, k2, k3⟩ := Sim.frzL a.ids hs
    obtain ⟨y, h3, h4⟩ := rdF_relS (S' := S') h (fun i hi en hen _ => hs.ents i en hen) h2 φ k1 fun i hi ad had => by
      obtain ⟨e, he, hl⟩ := rdF_ids h i hi
      exact k2 i hi e he hl ad (.inl had)
    have hv' := (hv.chg T (Chg.refl [] w) (by simp) fun b hb => .inl (k1 b hb)).set T j h4
    rw [show us.set j v = us by
      obtain ⟨hlt, hg⟩ := List.getElem?_eq_some_iff.1 h1
      rw [← hg, List.set_getElem_self]] at hv'
    exact fixZ_sound l h3 k3 hv'
end
end Go.X
