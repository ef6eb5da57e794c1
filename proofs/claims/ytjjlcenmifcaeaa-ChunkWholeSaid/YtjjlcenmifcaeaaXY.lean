/- A step that makes lists of what is owned: what it comes to, what it changes. Nothing here is about one program. -/
import Derived.Test.YtjjlcenmifcaeaaXD
namespace Go.X
open Go.RowKit Go.V

section
variable {T : Tab} {P : Program} {C : Ctx T} {w w' : World} {S S' : List Nat} {φ φ' : Nat → RA} {w0 : World} {S0 : Ow} {F : AF T} {H : List (Ent T.U)} {F' : PF}
variable {ops : Array Oper} {Q : Exit → Act → World → Prop} {k n : Nat} {ds : List Deferred} {o : Oper} {R : Type} {r : R}
/-- the entries that may become lists. -/
def frzIds (C : Ctx T) (o : Oper) (F : AF T) (H : List (Ent T.U)) : List Nat :=
  match o.op with
  | .store _ x y => match aev T F x, aev T F y with
    | some p, some a => match placeTy T H p a with | some _ => a.ids | none => []
    | _, _ => []
  | .buildSlice t _ ps => match C.ty t, aevL T F (ps.toList.map Prod.snd) with | some _, some as => idsL as | _, _ => []
  | .mapUpdate t _ _ v => match C.ty t, aev T F v with | some _, some a => a.ids | _, _ => []
  | _ => []
/-- the rows of structs that may be opened. -/
def drIds (o : Oper) (F : AF T) (H : List (Ent T.U)) : List Nat :=
  match o.op with
  | .load _ x => match aev T F x with | some (.eptr k _ _ _) => (match H[k]? with | some (.drow _ _ _ _ _) => [k] | _ => []) | _ => []
  | .store _ x _ => match aev T F x with | some (.eptr k _ _ _) => (match H[k]? with | some (.drow _ _ _ _ _) => [k] | _ => []) | _ => []
  | _ => []
def wrF (C : Ctx T) (o : Oper) (st : St T) : List Nat := wrA C o st ++ (frzIds C o st.F st.H ++ drIds o st.F st.H)
theorem Keeps.sub {l m : List Nat} {H1 : List (Ent T.U)} (h : Keeps T l H H1) (hl : ∀ i ∈ l, i ∈ m) : Keeps T m H H1 := ⟨h.len, fun e he hn => h.same e he fun hm => hn (hl e hm), h.row⟩
theorem Keeps.trans {l : List Nat} {H1 H2 : List (Ent T.U)} (h : Keeps T l H H1) (h' : Keeps T l H1 H2) : Keeps T l H H2 :=
  ⟨Nat.le_trans h.len h'.len, fun e he hn => (h'.same e (Nat.lt_of_lt_of_le he h.len) hn).trans (h.same e he hn), fun e ty t ys he hy => by
    obtain ⟨xs, hx⟩ := h'.row e ty t ys (Nat.lt_of_lt_of_le he h.len) hy
    exact h.row e ty t xs he hx⟩
theorem goneL_keeps : ∀ (ids : List Nat) {H : List (Ent T.U)}, Keeps T ids H (goneL T H ids)
  | [], H => .refl _
  | i :: r, H => (Keeps.set (l := i :: r) (List.mem_cons_self ..) fun ty t ys e => by cases e).trans ((goneL_keeps r).sub fun j hj => List.mem_cons_of_mem _ hj)
theorem frzS_det {t : Ty} {x : Operand} {st : St T} {K : St T → Option R} (h : frzS T t x st K = some r) : ∃ s a y, x = .tmp s ∧ st.F.get T s = some a ∧ K ⟨(s, toAV T t y) :: st.F, goneL T st.H a.ids⟩ = some r ∧ ∀ {R' : Type} (K' : St T → Option R'), frzS T t x st K' = K' ⟨(s, toAV T t y) :: st.F, goneL T st.H a.ids⟩ := by
  unfold frzS at h
  split at h <;> try (cases h; done)
  rename_i s
  split at h <;> try (cases h; done)
  rename_i a ha
  obtain ⟨y, h1, h2⟩ := rdF_det h
  exact ⟨s, a, y, rfl, ha, h1, fun K' => by simp only [frzS, ha, h2]⟩
theorem frzPs_det {te : Ty} : ∀ {ps : List (Nat × Operand)} {st : St T} {K : St T → Option R} {l : List Nat}, frzPs T te ps st K = some r → (∀ x ∈ ps.map Prod.snd, ∀ a, aev T st.F x = some a → ∀ i ∈ a.ids, i ∈ l) →
    ∃ st', K st' = some r ∧ Keeps T l st.H st'.H ∧ ∀ {R' : Type} (K' : St T → Option R'), frzPs T te ps st K' = K' st'
  | [], st, K, l, h, _ => ⟨st, h, .refl _, fun _ => rfl⟩
  | (j, x) :: ps, st, K, l, h, hl => by
    unfold frzPs at h
    split at h <;> try (cases h; done)
    rename_i a ha
    split at h
    · rename_i cs hc
      obtain ⟨st', h1, h2, h3⟩ := frzPs_det h fun y hy => hl y (List.mem_cons_of_mem _ hy)
      exact ⟨st', h1, h2, fun K' => by simp only [frzPs, ha, hc]; exact h3 K'⟩
    · rename_i hc
      obtain ⟨s, b, y, rfl, hb, h1, h2⟩ := frzS_det h
      have : b = a := by have ha' : st.F.get T s = some a := ha; rw [hb] at ha'; exact Option.some.inj ha'
      subst this
      obtain ⟨st', h3, h4, h5⟩ := frzPs_det (l := l) h1 fun z hz c hzc i hi => by
        have hz' : aev T st.F z = some c ∨ c = toAV T te y := by
          cases z with
          | tmp q =>
            have hzc : AF.get T ((s, toAV T te y) :: st.F) q = some c := hzc
            simp only [AF.get] at hzc
            split at hzc
            · exact .inr (Option.some.inj hzc).symm
            · exact .inl hzc
          | const v => exact .inl hzc
          | global g => exact .inl hzc
          | func f => exact .inl hzc
        rcases hz' with hz' | rfl
        · exact hl z (List.mem_cons_of_mem _ hz) c hz' i hi
        · rw [toAV_idsZ] at hi; cases hi
      refine ⟨st', h3, ((goneL_keeps _).sub fun i hi => hl _ (List.mem_cons_self ..) _ ha i hi).trans h4, fun K' => ?_⟩
      simp only [frzPs, ha, hc, h2]; exact h5 K'
theorem stepE_det (hE : EnvOk T P C.E) {st : St T} {K : St T → Option R} {Kp : AV T.U → St T → Option R} (h : stepE P C o st K Kp = some r) :
    (∃ Fz a H1, K ⟨updA T Fz o.dst a, H1⟩ = some r ∧ Keeps T (wrF C o st) st.H H1 ∧ ∀ {R' : Type} (K' : St T → Option R') (Kp' : AV T.U → St T → Option R'), stepE P C o st K' Kp' = K' ⟨updA T Fz o.dst a, H1⟩) ∨ ∃ a st', Kp a st' = some r ∧ Keeps T (wrF C o st) st.H st'.H ∧ ∀ {R' : Type} (K' : St T → Option R') (Kp' : AV T.U → St T → Option R'), stepE P C o st K' Kp' = Kp' a st' := by
  have plain : stepA P C o st K Kp = some r → (∀ {R' : Type} (K' : St T → Option R') (Kp' : AV T.U → St T → Option R'), stepE P C o st K' Kp' = stepA P C o st K' Kp') →
      (∃ Fz a H1, K ⟨updA T Fz o.dst a, H1⟩ = some r ∧ Keeps T (wrF C o st) st.H H1 ∧ ∀ {R' : Type} (K' : St T → Option R') (Kp' : AV T.U → St T → Option R'), stepE P C o st K' Kp' = K' ⟨updA T Fz o.dst a, H1⟩) ∨ ∃ a st', Kp a st' = some r ∧ Keeps T (wrF C o st) st.H st'.H ∧ ∀ {R' : Type} (K' : St T → Option R') (Kp' : AV T.U → St T → Option R'), stepE P C o st K' Kp' = Kp' a st' := by
    intro h he
    rcases stepA_det hE h with ⟨a, H1, h1, h2, h3⟩ | ⟨a, st', h1, h2, h3⟩
    · exact .inl ⟨st.F, a, H1, h1, h2.sub fun i hi => List.mem_append.2 (.inl hi), fun K' Kp' => by rw [he]; exact h3 K' Kp'⟩
    · exact .inr ⟨a, st', h1, h2.sub fun i hi => List.mem_append.2 (.inl hi), fun K' Kp' => by rw [he]; exact h3 K' Kp'⟩
  unfold stepE at h
  split at h
  · rename_i t x y hop
    split at h <;> try (cases h; done)
    rename_i p a hp ha
    split at h
    · rename_i te hc hte
      split at h <;> try (cases h; done)
      rename_i hne
      obtain ⟨s, b, z, rfl, hb, h1, h2⟩ := frzS_det h
      have : b = a := by have ha' : st.F.get T s = some a := ha; rw [hb] at ha'; exact Option.some.inj ha'
      subst this
      have kp : ∀ {H1 : List (Ent T.U)}, Keeps T (wrA C o ⟨(s, toAV T te z) :: st.F, goneL T st.H b.ids⟩) (goneL T st.H b.ids) H1 → Keeps T (wrF C o st) st.H H1 := by
        intro H1 h4
        refine ((goneL_keeps _).sub (m := wrF C o st) fun i hi => List.mem_append.2 (.inr (List.mem_append.2 (.inl ?_)))).trans (h4.sub fun i hi => List.mem_append.2 (.inl ?_))
        · simp only [frzIds, hop, hp, ha, hte]; exact hi
        · have hx : aev T ((s, toAV T te z) :: st.F) x = aev T st.F x := by
            cases x with
            | tmp q =>
              have hq : Nat.beq s q = false := by simpa [neTmp] using hne
              show AF.get T ((s, toAV T te z) :: st.F) q = _
              simp only [AF.get, hq]; rfl
            | _ => rfl
          simp only [wrA, hop, hx] at hi ⊢
          exact hi
      rcases stepA_det hE h1 with ⟨a1, H1, h3, h4, h5⟩ | ⟨a1, st', h3, h4, h5⟩
      · refine .inl ⟨_, a1, H1, h3, kp h4, fun K' Kp' => ?_⟩
        simp only [stepE, hop, hp, ha, hc, hte, hne, h2]; exact h5 K' Kp'
      · refine .inr ⟨a1, st', h3, kp h4, fun K' Kp' => ?_⟩
        simp only [stepE, hop, hp, ha, hc, hte, hne, h2]; exact h5 K' Kp'
    · rename_i hn
      refine plain h fun K' Kp' => ?_
      simp only [stepE, hop, hp, ha]
  · rename_i t len ps hop
    split at h
    · rename_i te as hte hps
      · have hmem : ∀ (l : List Operand) (as : List (AV T.U)), aevL T st.F l = some as → ∀ x ∈ l, ∀ a, aev T st.F x = some a → ∀ i ∈ a.ids, i ∈ idsL as := by
          intro l
          induction l with
          | nil => intro as _ x hx; cases hx
          | cons z q ih =>
            intro as has x hx a ha i hi
            unfold aevL at has
            split at has <;> try (cases has; done)
            rename_i b bs hb hbs
            simp only [Option.some.injEq] at has; subst has
            rw [idsL]
            rcases List.mem_cons.1 hx with rfl | hx
            · rw [hb] at ha; simp only [Option.some.injEq] at ha; subst ha; exact List.mem_append.2 (.inl hi)
            · exact List.mem_append.2 (.inr (ih bs hbs x hx a ha i hi))
        obtain ⟨st', h1, h2, h3⟩ := frzPs_det (l := idsL as) h (hmem _ _ hps)
        have kp : ∀ {H1 : List (Ent T.U)}, Keeps T (wrA C o st') st'.H H1 → Keeps T (wrF C o st) st.H H1 := by
          intro H1 h5
          refine (h2.sub (m := wrF C o st) fun i hi => List.mem_append.2 (.inr (List.mem_append.2 (.inl ?_)))).trans (h5.sub fun i hi => ?_)
          · simp only [frzIds, hop, hte, hps]; exact hi
          · simp only [wrA, hop] at hi; cases hi
        rcases stepA_det hE h1 with ⟨a1, H1, h4, h5, h6⟩ | ⟨a1, st2, h4, h5, h6⟩
        · refine .inl ⟨_, a1, H1, h4, kp h5, fun K' Kp' => ?_⟩
          simp only [stepE, hop, hte, hps, h3]; exact h6 K' Kp'
        · refine .inr ⟨a1, st2, h4, kp h5, fun K' Kp' => ?_⟩
          simp only [stepE, hop, hte, hps, h3]; exact h6 K' Kp'
    · rename_i hn
      refine plain h fun K' Kp' => ?_
      simp only [stepE, hop]
  · rename_i t m x v hop
    split at h
    · rename_i te a hte ha
      split at h
      · rename_i hc
        split at h <;> try (cases h; done)
        rename_i hne
        obtain ⟨s, b, z, rfl, hb, h1, h2⟩ := frzS_det h
        have : b = a := by have ha' : st.F.get T s = some a := ha; rw [hb] at ha'; exact Option.some.inj ha'
        subst this
        have kp : ∀ {H1 : List (Ent T.U)}, Keeps T (wrA C o ⟨(s, toAV T te z) :: st.F, goneL T st.H b.ids⟩) (goneL T st.H b.ids) H1 → Keeps T (wrF C o st) st.H H1 := by
          intro H1 h4
          refine ((goneL_keeps _).sub (m := wrF C o st) fun i hi => List.mem_append.2 (.inr (List.mem_append.2 (.inl ?_)))).trans (h4.sub fun i hi => List.mem_append.2 (.inl ?_))
          · simp only [frzIds, hop, hte, ha]; exact hi
          · have hx : aev T ((s, toAV T te z) :: st.F) m = aev T st.F m := by
              cases m with
              | tmp q =>
                have hq : Nat.beq s q = false := by
                  rw [Bool.and_eq_true] at hne; simpa [neTmp] using hne.1
                show AF.get T ((s, toAV T te z) :: st.F) q = _
                simp only [AF.get, hq]; rfl
              | _ => rfl
            simp only [wrA, hop, hx] at hi ⊢
            exact hi
        rcases stepA_det hE h1 with ⟨a1, H1, h3, h4, h5⟩ | ⟨a1, st', h3, h4, h5⟩
        · refine .inl ⟨_, a1, H1, h3, kp h4, fun K' Kp' => ?_⟩
          simp only [stepE, hop, hte, ha, hc, hne, h2]; exact h5 K' Kp'
        · refine .inr ⟨a1, st', h3, kp h4, fun K' Kp' => ?_⟩
          simp only [stepE, hop, hte, ha, hc, hne, h2]; exact h5 K' Kp'
      · rename_i cs hc
        refine plain h fun K' Kp' => ?_
        simp only [stepE, hop, hte, ha, hc]
    · rename_i hn
      refine plain h fun K' Kp' => ?_
      simp only [stepE, hop]
  · rename_i hn1 hn2 hn3
    refine plain h fun K' Kp' => ?_
    unfold stepE
    split
    · rename_i hop; exact (hn1 _ _ _ hop).elim
    · rename_i hop; exact (hn2 _ _ _ hop).elim
    · rename_i hop; exact (hn3 _ _ _ _ hop).elim
    · rfl
theorem openH_keeps {k : Nat} {e : TypeId} {d : Nat} {fe : List TypeId} {xs : List (T.U d)} {a : Nat} : Keeps T [k] H (openH T H k e d fe xs a) := by
  refine ⟨by unfold openH; simp, fun i hi hn => ?_, fun i ty t ys hi hy => ?_⟩
  · unfold openH; rw [List.getElem?_append_left (by simpa using hi), List.getElem?_set_ne (fun q => hn (by simp [q]))]
  · unfold openH at hy
    rw [List.getElem?_append_left (by simpa using hi)] at hy
    by_cases hik : i = k
    · subst hik; rw [List.getElem?_set_self hi] at hy; cases hy
    · rw [List.getElem?_set_ne (Ne.symm hik)] at hy; exact ⟨ys, hy⟩
theorem set_keeps {k : Nat} {e : TypeId} {d : Nat} {fe : List TypeId} {xs : List (T.U d)} {op : Option (Nat × List (AV T.U))} : Keeps T [k] H (H.set k (.drow e d fe xs op)) :=
  Keeps.set (List.mem_cons_self ..) fun ty t ys e => by cases e
theorem loadD_det {t : TypeId} {k sz a c : Nat} {e : TypeId} {d : Nat} {fe : List TypeId} {xs : List (T.U d)} {op : Option (Nat × List (AV T.U))} {K : AV T.U → List (Ent T.U) → Option R} (h : loadD P t H k sz a c e d fe xs op K = some r) :
    ∃ u H1, K u H1 = some r ∧ Keeps T [k] H H1 ∧ ∀ {R' : Type} (K' : AV T.U → List (Ent T.U) → Option R'), loadD P t H k sz a c e d fe xs op K' = K' u H1 := by
  unfold loadD at h
  split at h <;> try (cases h; done)
  rename_i hsz
  split at h
  · split at h <;> try (cases h; done)
    rename_i v hl
    split at h
    · rename_i hn
      obtain ⟨ha, hK⟩ := iteOpt h
      exact ⟨v, H, hK, .refl _, fun K' => by simp only [loadD, hsz, hl, hn, if_pos ha]⟩
    · rename_i hn
      split at h <;> try (cases h; done)
      rename_i u hu
      split at h <;> try (cases h; done)
      rename_i hne
      obtain ⟨ha, hK⟩ := iteOpt h
      exact ⟨u, _, hK, openH_keeps, fun K' => by simp only [loadD, hsz, hl, hn, hu, hne, if_pos ha]⟩
  · split at h <;> try (cases h; done)
    rename_i u hu
    split at h <;> try (cases h; done)
    rename_i hne
    obtain ⟨ha, hK⟩ := iteOpt h
    exact ⟨u, H, hK, .refl _, fun K' => by simp only [loadD, hsz, hu, hne, if_pos ha]⟩
theorem storeD_det {t : TypeId} {k sz a c : Nat} {e : TypeId} {d : Nat} {fe : List TypeId} {xs : List (T.U d)} {op : Option (Nat × List (AV T.U))} {v : AV T.U} {K : List (Ent T.U) → Option R} (h : storeD P t H k sz a c e d fe xs op v K = some r) :
    ∃ H1, K H1 = some r ∧ Keeps T [k] H H1 ∧ ∀ {R' : Type} (K' : List (Ent T.U) → Option R'), storeD P t H k sz a c e d fe xs op v K' = K' H1 := by
  unfold storeD at h
  split at h <;> try (cases h; done)
  rename_i hsz
  split at h
  · obtain ⟨ha, hK⟩ := iteOpt h
    exact ⟨_, hK, openH_keeps.trans set_keeps, fun K' => by simp only [storeD, hsz, if_pos ha]⟩
  · obtain ⟨ha, hK⟩ := iteOpt h
    exact ⟨_, hK, set_keeps, fun K' => by simp only [storeD, hsz, if_pos ha]⟩
theorem makeD_det {d : Nat} {fe : List TypeId} {t : TypeId} {l c : Int} {K : AV T.U → List (Ent T.U) → Option R} (h : makeD P d fe t H l c K = some r) :
    ∃ u H1, K u H1 = some r ∧ Keeps T [] H H1 ∧ ∀ {R' : Type} (K' : AV T.U → List (Ent T.U) → Option R'), makeD P d fe t H l c K' = K' u H1 := by
  unfold makeD at h
  split at h <;> try (cases h; done)
  rename_i he
  split at h <;> try (cases h; done)
  rename_i hsz hz
  split at h <;> try (cases h; done)
  rename_i hx
  obtain ⟨ha, hK⟩ := iteOpt h
  refine ⟨_, _, hK, ⟨by simp, fun i hi _ => List.getElem?_append_left hi, fun i ty t ys hi hy => ⟨ys, by rwa [List.getElem?_append_left hi] at hy⟩⟩, fun K' => by simp only [makeD, he, hsz, hz, hx, if_pos ha]⟩
theorem stepR_det {st : St T} {K : St T → Option R} {z : Option R} (hz : stepR P C o st K = some z) (h : z = some r) :
    ∃ a H1, K ⟨updA T st.F o.dst a, H1⟩ = some r ∧ Keeps T (drIds o st.F st.H) st.H H1 ∧ ∀ {R' : Type} (K' : St T → Option R'), stepR P C o st K' = some (K' ⟨updA T st.F o.dst a, H1⟩) := by
  unfold stepR at hz
  split at hz <;> try (cases hz; done)
  · rename_i t x y hop
    split at hz <;> try (cases hz; done)
    rename_i hdr
    obtain rfl := Option.some.inj hz
    split at h <;> try (cases h; done)
    rename_i hx hy
    obtain ⟨u, H1, h1, h2, h3⟩ := makeD_det h
    exact ⟨u, H1, h1, h2.sub (by simp), fun K' => by simp only [stepR, hop, hdr, hx, hy, h3]⟩
  · rename_i t x y hop
    split at hz <;> try (cases hz; done)
    rename_i hx
    split at hz <;> try (cases hz; done)
    rename_i hi
    obtain rfl := Option.some.inj hz
    split at h <;> try (cases h; done)
    rename_i hy hel
    obtain ⟨hj, hK⟩ := idxD_some h
    refine ⟨_, _, hK, .refl _, fun K' => ?_⟩
    simp only [stepR, hop, hx, hi, hy, hel]
    exact congrArg some (if_pos hj)
  · rename_i t x hop
    split at hz <;> try (cases hz; done)
    rename_i hx
    split at hz <;> try (cases hz; done)
    rename_i hi
    obtain rfl := Option.some.inj hz
    obtain ⟨u, H1, h1, h2, h3⟩ := loadD_det h
    exact ⟨u, H1, h1, by simp only [drIds, hop, hx, hi]; exact h2, fun K' => by simp only [stepR, hop, hx, hi, h3]⟩
  · rename_i t x y hop
    split at hz <;> try (cases hz; done)
    rename_i hx
    split at hz <;> try (cases hz; done)
    rename_i hi
    obtain rfl := Option.some.inj hz
    split at h <;> try (cases h; done)
    rename_i hdst hy
    obtain ⟨H1, h1, h2, h3⟩ := storeD_det h
    exact ⟨.raw undef, H1, by rw [hdst]; exact h1, by simp only [drIds, hop, hx, hi]; exact h2, fun K' => by simp only [stepR, hop, hx, hi, hdst, hy, h3, updA]⟩
theorem stepR_none {st : St T} {K : St T → Option R} (hz : stepR P C o st K = none) {R' : Type} (K' : St T → Option R') : stepR P C o st K' = none := by
  unfold stepR at hz ⊢
  split at hz <;> rename_i hop <;> (try simp only [hop])
  · split at hz <;> first | (cases hz; done) | (rename_i h1; simp only [h1])
  · split at hz
    · rename_i h1; split at hz
      · cases hz
      · rename_i h2; simp only [h1]; try (split <;> first | rfl | exact (h2 _ _ _ _ _ ‹_›).elim)
    · rename_i h1; first | (split <;> first | rfl | exact (h1 _ ‹_›).elim) | rfl
  · split at hz
    · rename_i h1; split at hz
      · cases hz
      · rename_i h2; simp only [h1]; try (split <;> first | rfl | exact (h2 _ _ _ _ _ ‹_›).elim)
    · rename_i h1; first | (split <;> first | rfl | exact (h1 _ _ _ _ ‹_›).elim) | rfl
  · split at hz
    · rename_i h1; split at hz
      · cases hz
      · rename_i h2; simp only [h1]; try (split <;> first | rfl | exact (h2 _ _ _ _ _ ‹_›).elim)
    · rename_i h1; first | (split <;> first | rfl | exact (h1 _ _ _ _ ‹_›).elim) | rfl
  all_goals (split <;> simp_all)
theorem stepF_det (hE : EnvOk T P C.E) {st : St T} {K : St T → Option R} {Kp : AV T.U → St T → Option R} (h : stepF P C o st K Kp = some r) :
    (∃ Fz a H1, K ⟨updA T Fz o.dst a, H1⟩ = some r ∧ Keeps T (wrF C o st) st.H H1 ∧ ∀ {R' : Type} (K' : St T → Option R') (Kp' : AV T.U → St T → Option R'), stepF P C o st K' Kp' = K' ⟨updA T Fz o.dst a, H1⟩) ∨ ∃ a st', Kp a st' = some r ∧ Keeps T (wrF C o st) st.H st'.H ∧ ∀ {R' : Type} (K' : St T → Option R') (Kp' : AV T.U → St T → Option R'), stepF P C o st K' Kp' = Kp' a st' := by
  unfold stepF at h
  split at h
  · rename_i z hz
    obtain ⟨a, H1, h1, h2, h3⟩ := stepR_det hz h
    exact .inl ⟨st.F, a, H1, h1, h2.sub fun i hi => List.mem_append.2 (.inr (List.mem_append.2 (.inr hi))), fun K' Kp' => by simp only [stepF, h3]⟩
  · rename_i hz
    rcases stepE_det hE h with ⟨Fz, a, H1, h1, h2, h3⟩ | ⟨a, st', h1, h2, h3⟩
    · exact .inl ⟨Fz, a, H1, h1, h2, fun K' Kp' => by simp only [stepF, stepR_none hz, h3]⟩
    · exact .inr ⟨a, st', h1, h2, fun K' Kp' => by simp only [stepF, stepR_none hz, h3]⟩
/-- such an operation, that is wanted. -/
theorem op_soundD {z : Option (St T)} {st' : St T} (hz : stepR P C o ⟨F, H⟩ some = some z) (hs : z = some st') (hdst : okDst n o.dst = true) (hns : notSelect o = true) (hpre : presA F o = true) (h : Sim T w0 S0 ⟨F, H⟩ F' w S φ) {a : Act} (ha : Fr n ds F' a) :
    o.wp P a w (fun a' w' => ∃ F1, Stands T w0 S0 st' F1 w' ∧ Fr n ds F1 a' ∧ ∃ v, a' = a.put o.dst v) Q := by
  let o' : Oper := { o with guard := none }
  have hd : dec #[o'] 0 n F' = some o' := by
    unfold dec
    have hw : wants #[o'] F' o' = some true := rfl
    have hp : present F' o' = true := presA_rel (o := o') h.fr hpre
    have h1 : okDst n o'.dst = true := hdst
    have h2 : notSelect o' = true := hns
    simp only [List.getElem?_toArray, List.getElem?_cons_zero, hw, hp, h1, h2, Bool.and_self]
  have hs' : stepR P C o' ⟨F, H⟩ some = some z := by
    cases o; exact hz
  have hwr := stepR_sound (Q := fun e a' w' => e = .normal ∧ ∃ F1, Stands T w0 S0 st' F1 w' ∧ Fr n ds F1 a') (ds := ds) hd hs' hs h (fun st hst F1 w1 h1 => by
    simp only [Option.some.injEq] at hst; subst hst
    exact WR.fin (by rfl) fun a1 ha1 => ⟨rfl, F1, h1, ha1⟩)
  have hw := hwr a ha
  unfold wpList at hw
  have hwant : Region.wanted o' (yielded #[o'] a.tmps) = true := by
    have := (dec_spec hd).2.2.2.2 ha
    exact this
  have hcons : (#[o'] : Array Oper).toList.drop 0 = [o'] := rfl
  rw [hcons] at hw
  simp only [hwant, if_true] at hw
  rcases hw with hw | ⟨_, a1, w1, h1, _⟩
  · refine wp_guard (g := none) (Oper.wp_and (o := o') (K := wpList P #[o'] _ []) ?_ ?_ ?_ hw)
    · rintro v w1 h1
      unfold wpList at h1
      obtain ⟨_, F1, h2, h3⟩ := h1
      exact ⟨F1, h2, h3, v, rfl⟩
    · rintro d w1 h1
      unfold wpList at h1
      obtain ⟨_, F1, h2, h3⟩ := h1
      have e1 := h3.defers
      have e2 : ({ a with defers := d :: a.defers }.put o'.dst undef).defers = d :: a.defers := by cases o'.dst <;> rfl
      rw [e2, ha.defers] at e1
      exact absurd (congrArg List.length e1) (by simp)
    · rintro e a1 w1 hne ⟨rfl, _⟩
      exact hne rfl
  · cases h1
/-- An operation that is wanted, in a frame that fits. -/
theorem op_soundF (hE : EnvOk T P C.E) {st' : St T} (hs : stepF P C o ⟨F, H⟩ some (fun _ _ => none) = some st') (hdst : okDst n o.dst = true) (hns : notSelect o = true) (hpre : presA F o = true) (h : Sim T w0 S0 ⟨F, H⟩ F' w S φ) {a : Act} (ha : Fr n ds F' a) :
    o.wp P a w (fun a' w' => ∃ F1, Stands T w0 S0 st' F1 w' ∧ Fr n ds F1 a' ∧ ∃ v, a' = a.put o.dst v) Q := by
  have pre2 : ∀ {F2 : AF T} {H2 : List (Ent T.U)} {S2 : List Nat}, Sim T w0 S0 ⟨F2, H2⟩ F' w S2 φ → (∀ t, (F.get T t).isSome = true → (F2.get T t).isSome = true) → presA F2 o = true := by
    intro F2 H2 S2 _ hF
    unfold presA at hpre ⊢
    rw [List.all_eq_true] at hpre ⊢
    intro x hx
    have := hpre x hx
    cases x with
    | tmp t => exact hF t this
    | _ => exact this
  unfold stepF at hs
  split at hs
  · rename_i z hz; exact op_soundD hz hs hdst hns hpre h ha
  unfold stepE at hs
  split at hs
  · split at hs <;> try (cases hs; done)
    split at hs
    · split at hs <;> try (cases hs; done)
      obtain ⟨⟨F2, H2⟩, S2, h1, h2, h3⟩ := frzS_sound hs h
      exact op_sound hE h1 hdst hns (pre2 h2 h3) h2 ha
    · exact op_sound hE hs hdst hns hpre h ha
  · split at hs
    · obtain ⟨⟨F2, H2⟩, S2, h1, h2, h3⟩ := frzPs_sound hs h
      exact op_sound hE h1 hdst hns (pre2 h2 h3) h2 ha
    · exact op_sound hE hs hdst hns hpre h ha
  · split at hs
    · split at hs
      · split at hs <;> try (cases hs; done)
        obtain ⟨⟨F2, H2⟩, S2, h1, h2, h3⟩ := frzS_sound hs h
        exact op_sound hE h1 hdst hns (pre2 h2 h3) h2 ha
      · exact op_sound hE hs hdst hns hpre h ha
    · exact op_sound hE hs hdst hns hpre h ha
  · exact op_sound hE hs hdst hns hpre h ha
end
end Go.X
