/- A step that makes lists of what is owned: what it comes to, what it changes. Nothing here is about one program. -/
import Derived.Test.YthlhbjahlanneaaGreatXD
namespace Go.X
open Go.RowKit Go.V

section
variable {T : Tab} {P : Program} {C : Ctx T} {w w' : World} {S S' : List Nat} {φ φ' : Nat → RA} {w0 : World} {S0 : Ow} {F : AF T} {H : List (Ent T.U)} {F' : PF}
variable {ops : Array Oper} {Q : Exit → Act → World → Prop} {k n : Nat} {ds : List Deferred} {o : Oper} {R : Type} {r : R}
/-- the entries that may become lists. -/
def frzIds (C : Ctx T) (o : Oper) (F : AF T) (H : List (Ent T.U)) : List Nat :=
  match o.op with
  | .store _ x y => match aev T F x, aev T F y with
    | some p, some a => match placeTy T H p a with | some _ => a.ids | none => []
    | _, _ => []
  | .buildSlice t _ ps => match C.ty t, aevL T F (ps.toList.map Prod.snd) with | some _, some as => idsL as | _, _ => []
  | .mapUpdate t _ _ v => match C.ty t, aev T F v with | some _, some a => a.ids | _, _ => []
  | _ => []
def wrF (C : Ctx T) (o : Oper) (st : St T) : List Nat := wrA C o st ++ frzIds C o st.F st.H
theorem Keeps.sub {l m : List Nat} {H1 : List (Ent T.U)} (h : Keeps T l H H1) (hl : ∀ i ∈ l, i ∈ m) : Keeps T m H H1 := ⟨h.len, fun e he hn => h.same e he fun hm => hn (hl e hm), h.row⟩
theorem Keeps.trans {l : List Nat} {H1 H2 : List (Ent T.U)} (h : Keeps T l H H1) (h' : Keeps T l H1 H2) : Keeps T l H H2 :=
  ⟨Nat.le_trans h.len h'.len, fun e he hn => (h'.same e (Nat.lt_of_lt_of_le he h.len) hn).trans (h.same e he hn), fun e ty t ys he hy => by
    obtain ⟨xs, hx⟩ := h'.row e ty t ys (Nat.lt_of_lt_of_le he h.len) hy
    exact h.row e ty t xs he hx⟩
theorem goneL_keeps : ∀ (ids : List Nat) {H : List (Ent T.U)}, Keeps T ids H (goneL T H ids)
  | [], H => .refl _
  | i :: r, H => (Keeps.set (l := i :: r) (List.mem_cons_self ..) fun ty t ys e => by cases e).trans ((goneL_keeps r).sub fun j hj => List.mem_cons_of_mem _ hj)
theorem frzS_det {t : Ty} {x : Operand} {st : St T} {K : St T → Option R} (h : frzS T t x st K = some r) : ∃ s a y, x = .tmp s ∧ st.F.get T s = some a ∧ K ⟨(s, toAV T t y) :: st.F, goneL T st.H a.ids⟩ = some r ∧ ∀ {R' : Type} (K' : St T → Option R'), frzS T t x st K' = K' ⟨(s, toAV T t y) :: st.F, goneL T st.H a.ids⟩ := by
  unfold frzS at h
  split at h <;> try (cases h; done)
  rename_i s
  split at h <;> try (cases h; done)
  rename_i a ha
  obtain ⟨y, h1, h2⟩ := rdF_det h
  exact ⟨s, a, y, rfl, ha, h1, fun K' => by simp only [frzS, ha, h2]⟩
theorem frzPs_det {te : Ty} : ∀ {ps : List (Nat × Operand)} {st : St T} {K : St T → Option R} {l : List Nat}, frzPs T te ps st K = some r → (∀ x ∈ ps.map Prod.snd, ∀ a, aev T st.F x = some a → ∀ i ∈ a.ids, i ∈ l) →
    ∃ st', K st' = some r ∧ Keeps T l st.H st'.H ∧ ∀ {R' : Type} (K' : St T → Option R'), frzPs T te ps st K' = K' st'
  | [], st, K, l, h, _ => ⟨st, h, .refl _, fun _ => rfl⟩
  | (j, x) :: ps, st, K, l, h, hl => by
    unfold frzPs at h
    split at h <;> try (cases h; done)
    rename_i a ha
    split at h
    · rename_i cs hc
      obtain ⟨st', h1, h2, h3⟩ := frzPs_det h fun y hy => hl y (List.mem_cons_of_mem _ hy)
      exact ⟨st', h1, h2, fun K' => by simp only [frzPs, ha, hc]; exact h3 K'⟩
    · rename_i hc
      obtain ⟨s, b, y, rfl, hb, h1, h2⟩ := frzS_det h
      have : b = a := by have ha' : st.F.get T s = some a := ha; rw [hb] at ha'; exact Option.some.inj ha'
      subst this
      obtain ⟨st', h3, h4, h5⟩ := frzPs_det (l := l) h1 fun z hz c hzc i hi => by
        have hz' : aev T st.F z = some c ∨ c = toAV T te y := by
          cases z with
          | tmp q =>
            have hzc : AF.get T ((s, toAV T te y) :: st.F) q = some c := hzc
            simp only [AF.get] at hzc
            split at hzc
            · exact .inr (Option.some.inj hzc).symm
            · exact .inl hzc
          | const v => exact .inl hzc
          | global g => exact .inl hzc
          | func f => exact .inl hzc
        rcases hz' with hz' | rfl
        · exact hl z (List.mem_cons_of_mem _ hz) c hz' i hi
        · rw [toAV_idsZ] at hi; cases hi
      refine ⟨st', h3, ((goneL_keeps _).sub fun i hi => hl _ (List.mem_cons_self ..) _ ha i hi).trans h4, fun K' => ?_⟩
      simp only [frzPs, ha, hc, h2]; exact h5 K'
theorem stepF_det (hE : EnvOk T P C.E) {st : St T} {K : St T → Option R} {Kp : AV T.U → St T → Option R} (h : stepF P C o st K Kp = some r) :
    (∃ Fz a H1, K ⟨updA T Fz o.dst a, H1⟩ = some r ∧ Keeps T (wrF C o st) st.H H1 ∧ ∀ {R' : Type} (K' : St T → Option R') (Kp' : AV T.U → St T → Option R'), stepF P C o st K' Kp' = K' ⟨updA T Fz o.dst a, H1⟩) ∨ ∃ a st', Kp a st' = some r ∧ Keeps T (wrF C o st) st.H st'.H ∧ ∀ {R' : Type} (K' : St T → Option R') (Kp' : AV T.U → St T → Option R'), stepF P C o st K' Kp' = Kp' a st' := by
  have plain : stepA P C o st K Kp = some r → (∀ {R' : Type} (K' : St T → Option R') (Kp' : AV T.U → St T → Option R'), stepF P C o st K' Kp' = stepA P C o st K' Kp') →
      (∃ Fz a H1, K ⟨updA T Fz o.dst a, H1⟩ = some r ∧ Keeps T (wrF C o st) st.H H1 ∧ ∀ {R' : Type} (K' : St T → Option R') (Kp' : AV T.U → St T → Option R'), stepF P C o st K' Kp' = K' ⟨updA T Fz o.dst a, H1⟩) ∨ ∃ a st', Kp a st' = some r ∧ Keeps T (wrF C o st) st.H st'.H ∧ ∀ {R' : Type} (K' : St T → Option R') (Kp' : AV T.U → St T → Option R'), stepF P C o st K' Kp' = Kp' a st' := by
    intro h he
    rcases stepA_det hE h with ⟨a, H1, h1, h2, h3⟩ | ⟨a, st', h1, h2, h3⟩
    · exact .inl ⟨st.F, a, H1, h1, h2.sub fun i hi => List.mem_append.2 (.inl hi), fun K' Kp' => by rw [he]; exact h3 K' Kp'⟩
    · exact .inr ⟨a, st', h1, h2.sub fun i hi => List.mem_append.2 (.inl hi), fun K' Kp' => by rw [he]; exact h3 K' Kp'⟩
  unfold stepF at h
  split at h
  · rename_i t x y hop
    split at h <;> try (cases h; done)
    rename_i p a hp ha
    split at h
    · rename_i te hc hte
      split at h <;> try (cases h; done)
      rename_i hne
      obtain ⟨s, b, z, rfl, hb, h1, h2⟩ := frzS_det h
      have : b = a := by have ha' : st.F.get T s = some a := ha; rw [hb] at ha'; exact Option.some.inj ha'
      subst this
      have kp : ∀ {H1 : List (Ent T.U)}, Keeps T (wrA C o ⟨(s, toAV T te z) :: st.F, goneL T st.H b.ids⟩) (goneL T st.H b.ids) H1 → Keeps T (wrF C o st) st.H H1 := by
        intro H1 h4
        refine ((goneL_keeps _).sub (m := wrF C o st) fun i hi => List.mem_append.2 (.inr ?_)).trans (h4.sub fun i hi => List.mem_append.2 (.inl ?_))
        · simp only [frzIds, hop, hp, ha, hte]; exact hi
        · have hx : aev T ((s, toAV T te z) :: st.F) x = aev T st.F x := by
            cases x with
            | tmp q =>
              have hq : Nat.beq s q = false := by simpa [neTmp] using hne
              show AF.get T ((s, toAV T te z) :: st.F) q = _
              simp only [AF.get, hq]; rfl
            | _ => rfl
          simp only [wrA, hop, hx] at hi ⊢
          exact hi
      rcases stepA_det hE h1 with ⟨a1, H1, h3, h4, h5⟩ | ⟨a1, st', h3, h4, h5⟩
      · refine .inl ⟨_, a1, H1, h3, kp h4, fun K' Kp' => ?_⟩
        simp only [stepF, hop, hp, ha, hc, hte, hne, h2]; exact h5 K' Kp'
      · refine .inr ⟨a1, st', h3, kp h4, fun K' Kp' => ?_⟩
        simp only [stepF, hop, hp, ha, hc, hte, hne, h2]; exact h5 K' Kp'
    · rename_i hn
      refine plain h fun K' Kp' => ?_
      simp only [stepF, hop, hp, ha]
  · rename_i t len ps hop
    split at h
    · rename_i te as hte hps
      · have hmem : ∀ (l : List Operand) (as : List (AV T.U)), aevL T st.F l = some as → ∀ x ∈ l, ∀ a, aev T st.F x = some a → ∀ i ∈ a.ids, i ∈ idsL as := by
          intro l
          induction l with
          | nil => intro as _ x hx; cases hx
          | cons z q ih =>
            intro as has x hx a ha i hi
            unfold aevL at has
            split at has <;> try (cases has; done)
            rename_i b bs hb hbs
            simp only [Option.some.injEq] at has; subst has
            rw [idsL]
            rcases List.mem_cons.1 hx with rfl | hx
            · rw [hb] at ha; simp only [Option.some.injEq] at ha; subst ha; exact List.mem_append.2 (.inl hi)
            · exact List.mem_append.2 (.inr (ih bs hbs x hx a ha i hi))
        obtain ⟨st', h1, h2, h3⟩ := frzPs_det (l := idsL as) h (hmem _ _ hps)
        have kp : ∀ {H1 : List (Ent T.U)}, Keeps T (wrA C o st') st'.H H1 → Keeps T (wrF C o st) st.H H1 := by
          intro H1 h5
          refine (h2.sub (m := wrF C o st) fun i hi => List.mem_append.2 (.inr ?_)).trans (h5.sub fun i hi => ?_)
          · simp only [frzIds, hop, hte, hps]; exact hi
          · simp only [wrA, hop] at hi; cases hi
        rcases stepA_det hE h1 with ⟨a1, H1, h4, h5, h6⟩ | ⟨a1, st2, h4, h5, h6⟩
        · refine .inl ⟨_, a1, H1, h4, kp h5, fun K' Kp' => ?_⟩
          simp only [stepF, hop, hte, hps, h3]; exact h6 K' Kp'
        · refine .inr ⟨a1, st2, h4, kp h5, fun K' Kp' => ?_⟩
          simp only [stepF, hop, hte, hps, h3]; exact h6 K' Kp'
    · rename_i hn
      refine plain h fun K' Kp' => ?_
      simp only [stepF, hop]
  · rename_i t m x v hop
    split at h
    · rename_i te a hte ha
      split at h
      · rename_i hc
        split at h <;> try (cases h; done)
        rename_i hne
        obtain ⟨s, b, z, rfl, hb, h1, h2⟩ := frzS_det h
        have : b = a := by have ha' : st.F.get T s = some a := ha; rw [hb] at ha'; exact Option.some.inj ha'
        subst this
        have kp : ∀ {H1 : List (Ent T.U)}, Keeps T (wrA C o ⟨(s, toAV T te z) :: st.F, goneL T st.H b.ids⟩) (goneL T st.H b.ids) H1 → Keeps T (wrF C o st) st.H H1 := by
          intro H1 h4
          refine ((goneL_keeps _).sub (m := wrF C o st) fun i hi => List.mem_append.2 (.inr ?_)).trans (h4.sub fun i hi => List.mem_append.2 (.inl ?_))
          · simp only [frzIds, hop, hte, ha]; exact hi
          · have hx : aev T ((s, toAV T te z) :: st.F) m = aev T st.F m := by
              cases m with
              | tmp q =>
                have hq : Nat.beq s q = false := by
                  rw [Bool.and_eq_true] at hne; simpa [neTmp] using hne.1
                show AF.get T ((s, toAV T te z) :: st.F) q = _
                simp only [AF.get, hq]; rfl
              | _ => rfl
            simp only [wrA, hop, hx] at hi ⊢
            exact hi
        rcases stepA_det hE h1 with ⟨a1, H1, h3, h4, h5⟩ | ⟨a1, st', h3, h4, h5⟩
        · refine .inl ⟨_, a1, H1, h3, kp h4, fun K' Kp' => ?_⟩
          simp only [stepF, hop, hte, ha, hc, hne, h2]; exact h5 K' Kp'
        · refine .inr ⟨a1, st', h3, kp h4, fun K' Kp' => ?_⟩
          simp only [stepF, hop, hte, ha, hc, hne, h2]; exact h5 K' Kp'
      · rename_i cs hc
        refine plain h fun K' Kp' => ?_
        simp only [stepF, hop, hte, ha, hc]
    · rename_i hn
      refine plain h fun K' Kp' => ?_
      simp only [stepF, hop]
  · rename_i hn1 hn2 hn3
    refine plain h fun K' Kp' => ?_
    unfold stepF
    split
    · rename_i hop; exact (hn1 _ _ _ hop).elim
    · rename_i hop; exact (hn2 _ _ _ hop).elim
    · rename_i hop; exact (hn3 _ _ _ _ hop).elim
    · rfl
/-- An operation that is wanted, in a frame that fits. -/
theorem op_soundF (hE : EnvOk T P C.E) {st' : St T} (hs : stepF P C o ⟨F, H⟩ some (fun _ _ => none) = some st') (hdst : okDst n o.dst = true) (hns : notSelect o = true) (hpre : presA F o = true) (h : Sim T w0 S0 ⟨F, H⟩ F' w S φ) {a : Act} (ha : Fr n ds F' a) :
    o.wp P a w (fun a' w' => ∃ F1, Stands T w0 S0 st' F1 w' ∧ Fr n ds F1 a' ∧ ∃ v, a' = a.put o.dst v) Q := by
  have pre2 : ∀ {F2 : AF T} {H2 : List (Ent T.U)} {S2 : List Nat}, Sim T w0 S0 ⟨F2, H2⟩ F' w S2 φ → (∀ t, (F.get T t).isSome = true → (F2.get T t).isSome = true) → presA F2 o = true := by
    intro F2 H2 S2 _ hF
    unfold presA at hpre ⊢
    rw [List.all_eq_true] at hpre ⊢
    intro x hx
    have := hpre x hx
    cases x with
    | tmp t => exact hF t this
    | _ => exact this
  unfold stepF at hs
  split at hs
  · split at hs <;> try (cases hs; done)
    split at hs
    · split at hs <;> try (cases hs; done)
      obtain ⟨⟨F2, H2⟩, S2, h1, h2, h3⟩ := frzS_sound hs h
      exact op_sound hE h1 hdst hns (pre2 h2 h3) h2 ha
    · exact op_sound hE hs hdst hns hpre h ha
  · split at hs
    · obtain ⟨⟨F2, H2⟩, S2, h1, h2, h3⟩ := frzPs_sound hs h
      exact op_sound hE h1 hdst hns (pre2 h2 h3) h2 ha
    · exact op_sound hE hs hdst hns hpre h ha
  · split at hs
    · split at hs
      · split at hs <;> try (cases hs; done)
        obtain ⟨⟨F2, H2⟩, S2, h1, h2, h3⟩ := frzS_sound hs h
        exact op_sound hE h1 hdst hns (pre2 h2 h3) h2 ha
      · exact op_sound hE hs hdst hns hpre h ha
    · exact op_sound hE hs hdst hns hpre h ha
  · exact op_sound hE hs hdst hns hpre h ha
end
end Go.X
