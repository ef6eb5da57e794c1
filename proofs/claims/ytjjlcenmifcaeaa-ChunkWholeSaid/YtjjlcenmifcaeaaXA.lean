/- Arrays: within blocks, behind pointers, as values. Nothing here is about one program. -/
import Derived.Test.YtjjlcenmifcaeaaXR
namespace Go.X
open Go.RowKit Go.V

section
variable {T : Tab} {P : Program} {w w' : World} {S S' : List Nat} {φ φ' : Nat → RA} {w0 : World} {S0 : Ow} {F : AF T} {H : List (Ent T.U)} {F' : PF}
variable {rd : List Nat} {ops : Array Oper} {Q : Exit → Act → World → Prop} {k n : Nat} {ds : List Deferred} {o : Oper}
theorem arrInfo_spec {t : TypeId} {n sz : Nat} (h : arrInfo P t = some (n, sz)) : ∃ e inf, P.underlying t = some (.array n e) ∧ P.info? e = some inf ∧ inf.size = sz ∧ ∀ w, (sizeOf e).run P w = .ok sz w := by
  unfold arrInfo at h
  split at h
  · rename_i m e hu
    split at h
    · rename_i inf hi
      simp only [Option.some.injEq, Prod.mk.injEq] at h
      obtain ⟨rfl, rfl⟩ := h
      exact ⟨e, inf, hu, hi, rfl, fun w => by simp [sizeOf, typeInfo, hi]⟩
    · cases h
  · cases h
theorem add_plain (b o1 d : Nat) : (⟨b, o1, none⟩ : Addr).add d = ⟨b, o1 + d, none⟩ := by unfold Addr.add; split <;> simp_all
theorem QR.indexArr {t : TypeId} {x y : Operand} {b o1 n0 sz : Nat} {kk : IntKind} {i : Int} (h0 : dec ops k n F' = some o) (hop : o.op = .indexAddr t x y) (hai : arrInfo P t = some (n0, sz)) (hx : ev F' x = some (.pointer (some ⟨b, o1, none⟩))) (hy : ev F' y = some (.int kk i)) (hi : 0 ≤ i ∧ i < (n0 : Int)) :
    QR P F' o S φ rd w (.pointer (some ⟨b, o1 + i.toNat * sz, none⟩)) := by
  obtain ⟨e, inf, hu, _, _, hs⟩ := arrInfo_spec hai
  intro w1 _ _
  have h1 := hi.1
  have h2 := hi.2
  simp [execOp, hop, evD_of hx, evD_of hy, Instr.indexAt, asIntOf, run_underlying hu, Instr.sureAddr, h1, h2, hs, add_plain]
theorem indexR_q {Z : Prop} {R : Type} {r : R} {t : TypeId} {x y : Operand} {n0 sz : Nat} (hd : dec ops k n F' = some o) (hop : o.op = .indexAddr t x y) (hai : arrInfo P t = some (n0, sz)) {s : AV T.U} {kk : IntKind} {j : Int} (hx : aev T F x = some s) (hy : aev T F y = some (cI T kk j)) {K0 : AV T.U → Option R} (hK0 : indexR T n0 sz H s j K0 = some r)
    (h : Sim T w0 S0 ⟨F, H⟩ F' w S φ) (K : ∀ a v, K0 a = some r → QR P F' o S φ rd w v → VR T w S φ a v → okA H a → Z) : Z := by
  obtain ⟨X, h1, h2⟩ := aev_rel h.fr hx
  obtain ⟨Y, h3, h4⟩ := aev_rel h.fr hy
  have e := cint_rel h4; subst e
  have hok := aev_ok h hx
  unfold indexR at hK0
  split at hK0
  · rename_i i o1
    obtain ⟨g, hg, rfl⟩ := h2
    split at hK0
    · rename_i e cs hi
      split at hK0
      · rename_i b r hl
        split at hK0
        · rename_i ty m xs hb
          have := arrI_eq hb; subst this
          split at hK0
          · rename_i hm
            rw [Bool.and_eq_true] at hm
            have hm1 := Nat.eq_of_beq_eq_true hm.1; have hm2 := Nat.eq_of_beq_eq_true hm.2
            obtain ⟨hj, hK⟩ := iteOpt hK0
            exact K _ _ hK (QR.indexArr hd hop hai h1 h3 hj) ⟨g, hg, by omega, by simp⟩ ⟨hok.1, trivial⟩
          · cases hK0
        · obtain ⟨hj, hK⟩ := iteOpt hK0
          exact K _ _ hK (QR.indexArr hd hop hai h1 h3 hj) ⟨g, hg, rfl⟩ ⟨hok.1, trivial⟩
      · cases hK0
    · cases hK0
  · rename_i e xs k1 c
    split at hK0
    · rename_i hm
      rw [Bool.and_eq_true] at hm
      have hm1 := Nat.eq_of_beq_eq_true hm.1; have hm2 := Nat.eq_of_beq_eq_true hm.2
      obtain ⟨hj, hK1⟩ := iteOpt hK0
      obtain ⟨hj2, hK⟩ := iteOpt hK1
      obtain ⟨ad, cap, hc, hk, rfl⟩ := h2
      subst hm1; subst hm2
      exact K _ _ hK (QR.indexArr hd hop hai h1 h3 hj) ⟨ad, cap, hc, hj2, by simp [Nat.add_mul, Nat.add_assoc]⟩ ⟨hok.1, trivial⟩
    · cases hK0
  · rename_i i s k1 c
    split at hK0
    · rename_i e ty xs hi
      split at hK0
      · rename_i hm
        rw [Bool.and_eq_true, Bool.and_eq_true] at hm
        have hm1 := Nat.eq_of_beq_eq_true hm.1; have hm2 := Nat.eq_of_beq_eq_true hm.2.1; have hm3 := Nat.eq_of_beq_eq_true hm.2.2
        obtain ⟨hj, hK1⟩ := iteOpt hK0
        obtain ⟨hj2, hK⟩ := iteOpt hK1
        obtain ⟨g, hg, rfl⟩ := h2
        subst hm1; subst hm2; subst hm3
        refine K _ _ hK (QR.indexArr hd hop hai h1 h3 hj) ⟨g, hg, by simp [Nat.add_mul, Nat.add_assoc]⟩ ⟨hok.1, ?_⟩
        intro e1 t1 ys hy1
        have hi' : H[i]? = some (.row e ty xs) := hi
        rw [hi'] at hy1
        simp only [Option.some.injEq, Ent.row.injEq] at hy1
        obtain ⟨rfl, rfl, hh⟩ := hy1
        have := eq_of_heq hh; subst this
        exact ⟨hj2, rfl⟩
      · cases hK0
    · cases hK0
  · cases hK0
def arrS (P : Program) (t : TypeId) : Option (Nat × Nat) := match P.underlying t with | some (.pointer a) => arrInfo P a | _ => arrInfo P t
theorem bounds_run {n0 : Nat} {l h : Option Int} {kl kh : IntKind} (hj : 0 ≤ l.getD 0 ∧ l.getD 0 ≤ h.getD n0 ∧ h.getD n0 ≤ (n0 : Int)) (w : World) : (Instr.sliceBounds false n0 n0 (l.map (Value.int kl)) (h.map (Value.int kh)) none).run P w = .ok ((l.getD 0).toNat, (h.getD n0).toNat, n0) w := by
  obtain ⟨h1, h2, h3⟩ := hj
  cases l <;> cases h <;> simp only [Option.getD_none, Option.getD_some] at h1 h2 h3 ⊢
  · simp [Instr.sliceBounds]
  · rename_i b; simp [Instr.sliceBounds, Instr.sliceBound, asIntOf, h2, h3]
  · rename_i a; simp [Instr.sliceBounds, Instr.sliceBound, asIntOf, h1, h2]
  · rename_i a b
    have e : a ≤ ((b.toNat : Nat) : Int) := by omega
    have e2 : 0 ≤ b := by omega
    have e3 : ¬ max b 0 < a := by omega
    simp [Instr.sliceBounds, Instr.sliceBound, asIntOf, h1, e2, h3, e, e3]
theorem QR.sliceArr {t : TypeId} {x : Operand} {lo hi : Option Operand} {b o1 n0 sz : Nat} {l m : Option Int} {kl kh : IntKind} (h0 : dec ops k n F' = some o) (hop : o.op = .slice t x lo hi none) (hai : arrS P t = some (n0, sz)) (hx : ev F' x = some (.pointer (some ⟨b, o1, none⟩)))
    (e1 : lo.map (evD F') = l.map (Value.int kl)) (e2 : hi.map (evD F') = m.map (Value.int kh)) (hj : 0 ≤ l.getD 0 ∧ l.getD 0 ≤ m.getD n0 ∧ m.getD n0 ≤ (n0 : Int)) :
    QR P F' o S φ rd w (.slice (some (if n0 = (l.getD 0).toNat then ⟨b, o1, none⟩ else ⟨b, o1 + (l.getD 0).toNat * sz, none⟩)) ((m.getD n0).toNat - (l.getD 0).toNat) (n0 - (l.getD 0).toNat)) := by
  intro w1 _ _
  have hb := bounds_run (P := P) (kl := kl) (kh := kh) hj w1
  unfold arrS at hai
  split at hai
  · rename_i a hu
    obtain ⟨e, inf, hu2, _, _, hs⟩ := arrInfo_spec hai
    have : (Instr.sliceAt t (.pointer (some ⟨b, o1, none⟩)) (l.map (Value.int kl)) (m.map (Value.int kh)) none).run P w1 = .ok (.slice (some (if n0 = (l.getD 0).toNat then ⟨b, o1, none⟩ else ⟨b, o1 + (l.getD 0).toNat * sz, none⟩)) ((m.getD n0).toNat - (l.getD 0).toNat) (n0 - (l.getD 0).toNat)) w1 := by
      simp [Instr.sliceAt, Instr.slice, run_underlying hu, run_underlying hu2, asAddr, hb, hs, add_plain]
    simp [execOp, hop, evD_of hx, e1, e2, this]
  · obtain ⟨e, inf, hu2, _, _, hs⟩ := arrInfo_spec hai
    have : (Instr.sliceAt t (.pointer (some ⟨b, o1, none⟩)) (l.map (Value.int kl)) (m.map (Value.int kh)) none).run P w1 = .ok (.slice (some (if n0 = (l.getD 0).toNat then ⟨b, o1, none⟩ else ⟨b, o1 + (l.getD 0).toNat * sz, none⟩)) ((m.getD n0).toNat - (l.getD 0).toNat) (n0 - (l.getD 0).toNat)) w1 := by
      simp [Instr.sliceAt, run_underlying hu2, Instr.sureAddr, hb, hs, add_plain]
    simp [execOp, hop, evD_of hx, e1, e2, this]
theorem sliceR_q {Z : Prop} {R : Type} {r : R} {t : TypeId} {x : Operand} {lo hi : Option Operand} {n0 sz : Nat} (hd : dec ops k n F' = some o) (hop : o.op = .slice t x lo hi none) (hai : arrS P t = some (n0, sz)) {s : AV T.U} {l m : Option Int} (hx : aev T F x = some s) (hlo : bndA F lo = some l) (hhi : bndA F hi = some m)
    {K0 : AV T.U → Option R} (hK0 : sliceR T n0 sz H s l m K0 = some r) (h : Sim T w0 S0 ⟨F, H⟩ F' w S φ) (K : ∀ a v, K0 a = some r → QR P F' o S φ rd w v → VR T w S φ a v → okA H a → Z) : Z := by
  obtain ⟨X, h1, h2⟩ := aev_rel h.fr hx
  obtain ⟨kl, e1⟩ := bndA_rel h.fr hlo
  obtain ⟨kh, e2⟩ := bndA_rel h.fr hhi
  have hok := aev_ok h hx
  unfold sliceR at hK0
  simp only at hK0
  split at hK0
  · rename_i i o1
    obtain ⟨g, hg, rfl⟩ := h2
    split at hK0
    · rename_i e cs hi
      split at hK0
      · rename_i b r hl
        split at hK0
        · rename_i ty mm xs hb
          have := arrI_eq hb; subst this
          split at hK0
          · rename_i hm
            rw [Bool.and_eq_true] at hm
            have hm1 := Nat.eq_of_beq_eq_true hm.1; have hm2 := Nat.eq_of_beq_eq_true hm.2
            obtain ⟨hj, hK⟩ := iteOpt hK0
            refine K (.asl i o1 sz n0 (l.getD 0).toNat ((m.getD n0).toNat - (l.getD 0).toNat)) _ hK (QR.sliceArr hd hop hai h1 e1 e2 hj) ⟨g, _, hg, rfl, by omega, ?_⟩ ⟨hok.1, trivial⟩
            split
            · left; omega
            · right; rfl
          · cases hK0
        · cases hK0
      · cases hK0
    · cases hK0
  · rename_i e xs k1 c
    split at hK0
    · rename_i hm
      rw [Bool.and_eq_true, Bool.and_eq_true] at hm
      have hm1 := Nat.eq_of_beq_eq_true hm.1; have hm2 := Nat.eq_of_beq_eq_true hm.2.1; have hm3 := Nat.eq_of_beq_eq_true hm.2.2
      subst hm1; subst hm2; subst hm3
      obtain ⟨hn, hK1⟩ := iteOpt hK0
      obtain ⟨hj, hK⟩ := iteOpt hK1
      obtain ⟨ad, cap, hc, hk, rfl⟩ := h2
      refine K (.cell ⟨.list e, _⟩) _ hK (QR.sliceArr hd hop hai h1 e1 e2 hj) ?_ ⟨fun i hi => (by cases hi), trivial⟩
      show CR T w S (.list e) (List.take ((m.getD n0).toNat - (l.getD 0).toNat) (List.drop (l.getD 0).toNat xs)) _
      have had : ad = some ⟨bk ad, of ad, none⟩ := by
        generalize hv : Value.slice ad xs.length cap = v at hc
        cases hc with
        | list _ _ ad' cap' u hcap hnil had hcell hrel =>
          simp only [Value.slice.injEq, true_and] at hv
          obtain ⟨rfl, rfl⟩ := hv
          exact (had (by intro e; subst e; simp at hk)).1
      have h3 := CR.sub hc (i := 0) (m := n0) (by omega)
      rw [cutAd0, List.drop_zero] at h3
      have hl3 : (xs.take n0).length = n0 := by rw [List.length_take]; omega
      have h4 : CR T w S (.list e) (xs.take n0) (.slice ad (xs.take n0).length n0) := CR.recap (by rw [hl3]; exact h3) (by omega) (by intro e; rw [e] at had; cases had)
      have h5 := CR.sub h4 (i := (l.getD 0).toNat) (m := (m.getD n0).toNat - (l.getD 0).toNat) (by omega)
      rw [List.drop_take, List.take_take, Nat.min_eq_left (by omega)] at h5
      have hcut : cutAd ad n0 (l.getD 0).toNat (szT T e) = some (if n0 = (l.getD 0).toNat then ⟨bk ad, of ad + (0 * szT T e + 0), none⟩ else ⟨bk ad, of ad + (0 * szT T e + 0) + (l.getD 0).toNat * szT T e, none⟩) := by
        unfold cutAd
        generalize bk ad = b at *
        generalize of ad = o1 at *
        subst had
        split
        · simp
        · simp [add_plain]
      rwa [hcut] at h5
    · cases hK0
  · cases hK0
theorem arrOf_q {Z : Prop} {R : Type} {r : R} {t : TypeId} {x : Operand} {n0 sz : Nat} (hop : o.op = .sliceToArrayPointer t x) (hai : arrInfo P t = some (n0, sz)) {s : AV T.U} (hx : aev T F x = some s)
    {K0 : AV T.U → Option R} (hK0 : arrOfA T n0 sz H s K0 = some r) (h : Sim T w0 S0 ⟨F, H⟩ F' w S φ) (K : ∀ a v, K0 a = some r → QR P F' o S φ rd w v → VR T w S φ a v → okA H a → Z) : Z := by
  obtain ⟨X, h1, h2⟩ := aev_rel h.fr hx
  have hok := aev_ok h hx
  obtain ⟨e0, inf, hu, _, _, _⟩ := arrInfo_spec hai
  have run : ∀ (ad : Option Addr) (m cap : Nat), X = .slice ad m cap → n0 ≤ m → QR P F' o S φ rd w (.pointer ad) := by
    intro ad m cap e hm w1 _ _
    subst e
    simp [execOp, hop, evD_of h1, Instr.arrayAt, run_underlying hu, Nat.not_lt.2 hm]
  unfold arrOfA at hK0
  split at hK0
  · rename_i e xs
    split at hK0
    · rename_i hm
      rw [Bool.and_eq_true] at hm
      have hm2 := Nat.le_of_ble_eq_true hm.2
      obtain ⟨hn, hK⟩ := iteOpt hK0
      have h2 : CR T w S (.list e) xs X := h2
      have h2' := h2
      cases h2' with
      | list _ _ ad cap u hcap hnil had hcell hrel =>
        have hq := run ad _ _ rfl hn
        have ha := (had (by intro e; subst e; simp at hn; omega)).1
        refine K _ _ hK hq ⟨ad, cap, h2, by omega, ?_⟩ ⟨fun i hi => (by cases hi), trivial⟩
        have ha2 : ad = some ⟨bk ad, of ad + (0 * szT T e + 0), none⟩ := by rw [Nat.zero_mul]; exact ha
        exact congrArg Value.pointer ha2
    · cases hK0
  · rename_i i
    split at hK0
    · rename_i e ty xs hi
      split at hK0
      · rename_i hm
        rw [Bool.and_eq_true] at hm
        have hm1 := Nat.eq_of_beq_eq_true hm.1; have hm2 := Nat.le_of_ble_eq_true hm.2
        subst hm1
        obtain ⟨hn, hK⟩ := iteOpt hK0
        rw [VR] at h2; subst h2
        obtain ⟨g, c, B, vals, a1, a2, _⟩ := row_at h hi (by omega)
        refine K _ _ hK (run _ _ _ rfl (by omega)) ⟨g, a1, by rw [a1]; simp⟩ ⟨hok.1, ?_⟩
        intro e1 t1 ys hy1
        have hi' : H[i]? = some (.row e ty xs) := hi
        rw [hi'] at hy1
        simp only [Option.some.injEq, Ent.row.injEq] at hy1
        obtain ⟨rfl, rfl, hh⟩ := hy1
        have := eq_of_heq hh; subst this
        exact ⟨by omega, rfl⟩
      · cases hK0
    · cases hK0
  · cases hK0
theorem sz_array {t e : TypeId} {n0 : Nat} (hu : P.underlying t = some (.array n0 e)) : scalar P t = false ∧ (P.underlying t).isSome = true := by
  unfold scalar; rw [hu]; exact ⟨rfl, rfl⟩
theorem flat_cut {α β : Type} {f : α → List β} {sz : Nat} (hf : ∀ y, (f y).length = sz) (l : List α) (a b : Nat) : ((l.flatMap f).drop (a * sz)).take (b * sz) = ((l.drop a).take b).flatMap f := by
  have h1 : (l.flatMap f).drop (a * sz) = (l.drop a).flatMap f := by
    induction l generalizing a with
    | nil => simp
    | cons x r ih =>
      cases a with
      | zero => simp
      | succ a => rw [List.flatMap_cons, List.drop_succ_cons, Nat.succ_mul, Nat.add_comm, List.drop_append, hf, List.drop_of_length_le (by rw [hf]; omega), Nat.add_sub_cancel_left, List.nil_append, ih]
  rw [h1]
  generalize l.drop a = l
  induction l generalizing b with
  | nil => simp
  | cons x r ih =>
    cases b with
    | zero => simp
    | succ b => rw [List.flatMap_cons, List.take_succ_cons, List.flatMap_cons, Nat.succ_mul, Nat.add_comm, List.take_append, hf, List.take_of_length_le (by rw [hf]; omega), Nat.add_sub_cancel_left, ih]
theorem loadR_q {Z : Prop} {R : Type} {r : R} {t : TypeId} {x : Operand} {n0 sz : Nat} (hd : dec ops k n F' = some o) (hop : o.op = .load t x) (hai : arrInfo P t = some (n0, sz)) {ok : Bool} (hk : ok = true → sizeT P t = some (n0 * sz)) {s : AV T.U} (hx : aev T F x = some s)
    {K0 : AV T.U → Option R} {D : Option R} (hK0 : loadR T n0 sz ok H s K0 D = some r) (h : Sim T w0 S0 ⟨F, H⟩ F' w S φ) (hrd : ∀ i ∈ s.ids, i ∈ rd) (K : ∀ a v, K0 a = some r → QR P F' o S φ rd w v → VR T w S φ a v → okA H a → Z) (KD : D = some r → Z) : Z := by
  obtain ⟨X, h1, h2⟩ := aev_rel h.fr hx
  obtain ⟨e0, inf, hu, _, _, _⟩ := arrInfo_spec hai
  obtain ⟨u1, u2⟩ := sz_array hu
  unfold loadR at hK0
  split at hK0
  · rename_i e xs k1 c
    split at hK0
    · rename_i hm
      rw [Bool.and_eq_true, Bool.and_eq_true] at hm
      have hm1 := Nat.eq_of_beq_eq_true hm.2.1; have hm2 := Nat.eq_of_beq_eq_true hm.2.2
      subst hm1; subst hm2
      obtain ⟨hle, hK⟩ := iteOpt hK0
      obtain ⟨ad, cap, hc, hk1, rfl⟩ := h2
      have had : bk ad ∉ S := by
        generalize hv : Value.slice ad xs.length cap = v at hc
        cases hc with
        | list _ _ ad' cap' u hcap hnil had hcell hrel =>
          simp only [Value.slice.injEq, true_and] at hv
          obtain ⟨rfl, rfl⟩ := hv
          exact (had (by intro e; subst e; simp at hk1)).2.2
      obtain ⟨_, _, vals, hr, hcr⟩ := list_row hc
      have hcut := hcr.cut (k1 * szT T e) (n0 * szT T e)
      rw [flat_cut (flat_len T e)] at hcut
      have hlen : ((xs.drop k1).take n0).length = n0 := by rw [List.length_take, List.length_drop]; omega
      have hvl := hcut.1
      rw [flatMap_lenT (flat_len T e), hlen] at hvl
      exact K _ _ hK (QR.loadA hd (fun w1 hc1 _ => hr.chg hc1 (.inl had)) (by rw [decLoad_of hd hop, evD_of h1, Nat.add_zero]) u1 u2 (hk hm.1) _ hvl.symm rfl) ⟨_, rfl, hlen, hcut⟩ ⟨fun i hi => (by cases hi), trivial⟩
    · exact KD hK0
  · rename_i i s k1 c
    split at hK0
    · rename_i e ty xs hi
      split at hK0
      · rename_i hm
        rw [Bool.and_eq_true, Bool.and_eq_true, Bool.and_eq_true] at hm
        have hm1 := Nat.eq_of_beq_eq_true hm.2.1; have hm2 := Nat.eq_of_beq_eq_true hm.2.2.1; have hm3 := Nat.eq_of_beq_eq_true hm.2.2.2
        subst hm1; subst hm2; subst hm3
        obtain ⟨hle, hK⟩ := iteOpt hK0
        obtain ⟨hj, _⟩ := (aev_ok h hx).2 e ty xs hi
        obtain ⟨g, hg, rfl⟩ := h2
        obtain ⟨g', carr, B, vals, a1, a2, a3, a4, a5, a6, a7, a8, _⟩ := row_at h hi (by omega)
        rw [hg] at a1; simp only [Option.some.injEq, Addr.mk.injEq, and_true] at a1; subst a1
        have hr : Rg w (φ i).ad vals := a3.rg
        rw [hg] at hr
        have hcut := a7.cut (k1 * szT T ty) (n0 * szT T ty)
        rw [flat_cut (flat_len T ty)] at hcut
        have hlen : ((xs.drop k1).take n0).length = n0 := by rw [List.length_take, List.length_drop]; omega
        have hvl := hcut.1
        rw [flatMap_lenT (flat_len T ty), hlen] at hvl
        exact K _ _ hK (QR.loadA (ad := some ⟨g, 0, none⟩) hd (fun w1 _ hsm => Rg.same hr (show w1.heap[g]? = w.heap[g]? from hsm i (hrd i (by simp [AV.ids])) _ hg a4.lt)) (by rw [decLoad_of hd hop, evD_of h1]; rfl) u1 u2 (hk hm.1) _ hvl.symm rfl) ⟨_, rfl, hlen, hcut⟩ ⟨fun i hi => (by cases hi), trivial⟩
      · exact KD hK0
    · exact KD hK0
  · exact KD hK0
/-- an element of an array that is a value. -/
def indexV {R : Type} (T : Tab) (n sz : Nat) (a : AV T.U) (j : Int) (K : AV T.U → Option R) : Option R :=
  match a with
  | .arr ty m xs => match Nat.beq m n && (Nat.beq (szT T ty) sz && (ty.one && Nat.beq sz 1)) with
    | true => if 0 ≤ j ∧ j < ((n : Nat) : Int) then K (.cell ⟨ty, xs.getD j.toNat (dflt T ty)⟩) else none
    | false => none
  | .agg (.cell c :: cs) => match c.t.one && Nat.beq sz 1, rowOf T c.t n (.cell c :: cs) with
    | true, some xs => if 0 ≤ j ∧ j < ((n : Nat) : Int) then K (.cell ⟨c.t, xs.getD j.toNat (dflt T c.t)⟩) else none
    | _, _ => none
  | _ => none
theorem part_one {e : TypeId} {inf : TypeInfo} {d : TypeDesc} (hi : P.info? e = some inf) (hs : inf.size = 1) (hu : P.underlying e = some d) (hd : aggD d = false) {cs : Array Value} {j : Nat} {v : Value} (hj : cs[j]? = some v) (w : World) : (part e cs j).run P w = .ok v w := by
  refine partV_run ?_ w
  unfold partV
  simp only [hi, hu, hd]
  exact hj
theorem one_flat {t : Ty} (h : t.one = true) : szT T t = 1 := by cases t <;> first | rfl | cases h
theorem indexV_q {Z : Prop} {R : Type} {r : R} {t e : TypeId} {d : TypeDesc} {x y : Operand} {n0 sz : Nat} (hop : o.op = .index t x y) (hai : arrInfo P t = some (n0, sz)) (hel : P.underlying t = some (.array n0 e)) (hu : P.underlying e = some d) (had : aggD d = false) {s : AV T.U} {kk : IntKind} {j : Int} (hx : aev T F x = some s) (hy : aev T F y = some (cI T kk j))
    {K0 : AV T.U → Option R} (hK0 : indexV T n0 sz s j K0 = some r) (h : Sim T w0 S0 ⟨F, H⟩ F' w S φ) (K : ∀ a v, K0 a = some r → QR P F' o S φ rd w v → VR T w S φ a v → okA H a → Z) : Z := by
  obtain ⟨X, h1, h2⟩ := aev_rel h.fr hx
  obtain ⟨Y, h3, h4⟩ := aev_rel h.fr hy
  have e1 := cint_rel h4; subst e1
  obtain ⟨e0, inf, hu0, hinf, hsz, hs⟩ := arrInfo_spec hai
  rw [hel] at hu0; simp only [Option.some.injEq, TypeDesc.array.injEq, true_and] at hu0; subst hu0
  have go : ∀ (ty : Ty) (xs : List (den T.U ty)) (us : Array Value), ty.one = true → sz = 1 → X = .agg us → CellsR T w S (xs.flatMap (flat T ty)) us.toList → xs.length = n0 → (0 ≤ j ∧ j < (n0 : Int)) → K0 (.cell ⟨ty, xs.getD j.toNat (dflt T ty)⟩) = some r → Z := by
    intro ty xs us hone hs1 hX hc hl hj hK
    subst hX
    have hjl : j.toNat < xs.length := by omega
    have hg := getD_get (dflt T ty) hjl
    have hfl : (xs.flatMap (flat T ty))[j.toNat]? = some ⟨ty, xs.getD j.toNat (dflt T ty)⟩ := by
      have := flat_at (flat_len T ty) hg
      rw [one_flat hone, Nat.mul_one, flat_one T hone] at this
      have h5 := congrArg (·[0]?) this
      simpa [List.getElem?_take, List.getElem?_drop] using h5
    have hul : j.toNat < us.toList.length := by rw [← hc.1]; exact (List.getElem?_eq_some_iff.1 hfl).1
    obtain ⟨u, hu1⟩ : ∃ u, us.toList[j.toNat]? = some u := ⟨_, List.getElem?_eq_getElem hul⟩
    have hcr := hc.2 _ _ _ hfl hu1
    refine K _ u hK (fun w1 _ _ => ?_) hcr ⟨fun i hi => (by cases hi), trivial⟩
    have hp := part_one (P := P) hinf (by rw [hsz, hs1]) hu had (cs := us) (j := j.toNat) (by simpa using hu1) w1
    have b1 := hj.1; have b2 := hj.2
    have hs := hs w1
    rw [hs1] at hs
    simp [execOp, hop, evD_of h1, evD_of h3, Instr.index, asIntOf, run_underlying hel, b1, b2, hs, hp]
  unfold indexV at hK0
  split at hK0
  · rename_i ty m xs
    split at hK0
    · rename_i hm
      rw [Bool.and_eq_true, Bool.and_eq_true, Bool.and_eq_true] at hm
      have hm1 := Nat.eq_of_beq_eq_true hm.1; have hm4 := Nat.eq_of_beq_eq_true hm.2.2.2
      subst hm1
      obtain ⟨hj, hK⟩ := iteOpt hK0
      obtain ⟨us, rfl, hl, hc⟩ := h2
      exact go ty xs us hm.2.2.1 hm4 rfl hc hl hj hK
    · cases hK0
  · rename_i c cs
    split at hK0
    · rename_i xs hm hr
      rw [Bool.and_eq_true] at hm
      have hm4 := Nat.eq_of_beq_eq_true hm.2
      obtain ⟨hj, hK⟩ := iteOpt hK0
      obtain ⟨us, rfl, hc⟩ := h2
      obtain ⟨q1, q2⟩ := rowOf_rel hr hc
      exact go c.t xs us hm.1 hm4 rfl q2 q1 hj hK
    · cases hK0
  · cases hK0
/-! ### Arrays among new cells -/
theorem sameAV_eq {a b : AV T.U} (h : sameAV T a b = true) : a = b := by
  unfold sameAV at h
  split at h
  · rw [Bool.and_eq_true] at h
    obtain ⟨h1, h2⟩ := h
    have h1 := kindEq_eq h1; subst h1
    have h2 := eq_of_beq (show (_ == _) = true from h2)
    exact congrArg (fun z => AV.cell ⟨.int _, z⟩) h2
  · have h2 := eq_of_beq (show (_ == _) = true from h)
    exact congrArg (fun z => AV.cell ⟨.bool, z⟩) h2
  · cases h
theorem stripA_eq : ∀ {z r s : List (AV T.U)}, stripA T z r = some s → r = z ++ s
  | [], r, s, h => by simp only [stripA, Option.some.injEq] at h; exact h
  | _ :: _, [], s, h => by cases h
  | a :: z, b :: r, s, h => by
    unfold stripA at h
    split at h
    · rename_i hs; rw [← sameAV_eq hs, stripA_eq h]; rfl
    · cases h
theorem repAll_rel {t : Ty} {x : den T.U t} {z : List (AV T.U)} (hz : z = (flat T t x).map .cell) : ∀ {m : Nat} {r : List (AV T.U)} {vs : List Value}, repAll T z m r = true → VRL T w S φ r vs → CellsR T w S ((List.replicate m x).flatMap (flat T t)) vs
  | 0, r, vs, h, hv => by
    have : r = [] := by simpa [repAll] using h
    subst this
    cases vs with
    | nil => exact ⟨rfl, fun j c v h => by simp at h⟩
    | cons v r => exact hv.elim
  | m + 1, r, vs, h, hv => by
    unfold repAll at h
    split at h
    · rename_i s hs
      have := stripA_eq hs; subst this
      have h1 := hv.take T z.length
      rw [List.take_left' rfl] at h1
      have h2 := hv.drop T z.length
      rw [List.drop_left' rfl] at h2
      rw [List.replicate_succ, List.flatMap_cons, ← List.take_append_drop z.length vs]
      refine CellsR.app ?_ (repAll_rel hz h h2)
      subst hz
      exact VRL.cells.1 h1
    · cases h
theorem isNilR_eq {a : AV T.U} (h : isNilR a = true) : a = .raw (.slice none 0 0) := by
  unfold isNilR at h
  split at h
  · rfl
  · cases h
theorem nils_rel {e : Ty} : ∀ {as : List (AV T.U)} {vs : List Value}, as.all isNilR = true → VRL T w S φ as vs → CellsR T w S ((List.replicate as.length ([] : List (den T.U e))).flatMap (flat T (.nl e))) vs
  | [], [], _, _ => ⟨rfl, fun j c v h => by cases h⟩
  | [], _ :: _, _, hv => hv.elim
  | _ :: _, [], _, hv => hv.elim
  | a :: as, v :: vs, h, hv => by
    rw [List.all_cons, Bool.and_eq_true] at h
    have h1 := isNilR_eq h.1; subst h1
    have h2 : v = .slice none 0 0 := hv.1
    subst h2
    show CellsR T w S (([⟨.nl e, ([] : List (den T.U e))⟩] : List (Cell T.U)) ++ (List.replicate as.length ([] : List (den T.U e))).flatMap (flat T (.nl e))) ([.slice none 0 0] ++ vs)
    refine CellsR.app ?_ (nils_rel h.2 hv.2)
    refine ⟨rfl, fun j c v hj hv => ?_⟩
    match j with
    | 0 =>
      simp only [List.getElem?_cons_zero, Option.some.injEq] at hj hv
      subst hj; subst hv
      exact .nl e [] none 0 (.list e [] none 0 (fun _ _ => .slice none 0 0) (Nat.le_refl 0) (fun _ => ⟨rfl, rfl⟩) (fun h => absurd rfl h) (fun k j c h => by simp at h) (fun k j c h => by simp at h)) fun _ => ⟨rfl, rfl⟩
    | j + 1 => simp at hj
theorem nilsOf_rel {t : Ty} {m : Nat} {as : List (AV T.U)} {xs : List (den T.U t)} {vs : List Value} (h : nilsOf T m as t = some xs) (hv : VRL T w S φ as vs) : xs.length = m ∧ CellsR T w S (xs.flatMap (flat T t)) vs := by
  unfold nilsOf at h
  split at h
  · split at h
    · rename_i hb
      rw [Bool.and_eq_true] at hb
      simp only [Option.some.injEq] at h; subst h
      have := Nat.eq_of_beq_eq_true hb.2; subst this
      exact ⟨List.length_replicate, nils_rel hb.1 hv⟩
    · cases h
  · cases h
theorem arrOf_rel {t : Ty} {m : Nat} {as : List (AV T.U)} {xs : List (den T.U t)} {vs : List Value} (h : arrOf T t m as = some xs) (hv : VRL T w S φ as vs) : xs.length = m ∧ CellsR T w S (xs.flatMap (flat T t)) vs := by
  unfold arrOf at h
  split at h
  · rename_i ys hys
    simp only [Option.some.injEq] at h; subst h
    exact nilsOf_rel hys hv
  split at h
  · rename_i l hl
    split at h
    · rename_i x hx
      split at h
      · rename_i hr
        simp only [Option.some.injEq] at h; subst h
        exact ⟨List.length_replicate, repAll_rel (by rw [unflat_flat T hx]; exact cellsOf_map hl) hr hv⟩
      · exact rowOf_rel h hv
    · cases h
  · cases h
theorem groupA_rel : ∀ {ls : Lay} {as cs : List (AV T.U)}, groupA T ls as = some cs → (∀ i ∈ idsL cs, i ∈ idsL as) ∧ ∀ {w : World} {S : List Nat} {φ : Nat → RA} {vs : List Value}, VRL T w S φ as vs → BR T w S φ cs vs
  | [], [], cs, h => by
    simp only [groupA, Option.some.injEq] at h; subst h
    exact ⟨fun i hi => hi, fun hv => ⟨hv, trivial⟩⟩
  | [], _ :: _, cs, h => by cases h
  | none :: r, [], cs, h => by cases h
  | none :: r, a :: s, cs, h => by
    unfold groupA at h
    simp only at h
    split at h
    · rename_i hn
      split at h
      · rename_i l hl
        simp only [Option.some.injEq] at h; subst h
        obtain ⟨h1, h2⟩ := groupA_rel hl
        refine ⟨fun i hi => ?_, fun {w S φ vs} hv => ?_⟩
        · rw [idsL] at hi ⊢
          exact List.mem_append.2 ((List.mem_append.1 hi).imp id (h1 i))
        · match vs, hv with
          | v :: vs, hv =>
            have := h2 hv.2
            exact ⟨by rw [expL, exp1_one T hn]; exact ⟨hv.1, this.1⟩, lenA1_one T hn, this.2⟩
      · cases h
    · cases h
  | some (t, m) :: r, as, cs, h => by
    unfold groupA at h
    split at h
    · rename_i xs l hx hl
      simp only [Option.some.injEq] at h; subst h
      obtain ⟨h1, h2⟩ := groupA_rel hl
      refine ⟨fun i hi => ?_, fun {w S φ vs} hv => ?_⟩
      · rw [idsL] at hi
        rcases List.mem_append.1 hi with hi | hi
        · cases hi
        · have := h1 i hi
          rw [← List.take_append_drop (m * szT T t) as, idsL_app]
          exact List.mem_append.2 (.inr this)
      · obtain ⟨q1, q2⟩ := arrOf_rel hx (hv.take T (m * szT T t))
        have q3 := h2 (hv.drop T (m * szT T t))
        refine ⟨?_, q1, q3.2⟩
        rw [expL, ← List.take_append_drop (m * szT T t) vs]
        exact VRL.app T (VRL.cells.2 q2) q3.1
    · cases h
theorem layA_rel {ls : Option Lay} {as cs : List (AV T.U)} (h : layA T ls as = some cs) : (∀ i ∈ idsL cs, i ∈ idsL as) ∧ ∀ {w : World} {S : List Nat} {φ : Nat → RA} {vs : List Value}, VRL T w S φ as vs → BR T w S φ cs vs := by
  unfold layA at h
  split at h
  · split at h
    · rename_i hn
      simp only [Option.some.injEq] at h; subst h
      exact ⟨fun i hi => hi, fun hv => BR.of T hv hn⟩
    · cases h
  · exact groupA_rel h
theorem boxA_rel {ls : Option Lay} {a : AV T.U} {cs : List (AV T.U)} (h : boxA T ls a = some cs) : (∀ i ∈ idsL cs, i ∈ a.ids) ∧ ∀ {w : World} {S : List Nat} {φ : Nat → RA} {v : Value}, VR T w S φ a v → BR T w S φ cs v.cells.toList := by
  unfold boxA at h
  split at h
  · rename_i z hz
    obtain ⟨t, m, xs⟩ := z
    have := arrI_eq hz; subst this
    simp only [Option.some.injEq] at h; subst h
    refine ⟨fun i hi => hi, fun {w S φ v} hv => ?_⟩
    obtain ⟨us, rfl, h1, h2⟩ := hv
    refine ⟨?_, h1, trivial⟩
    rw [expL, expL, List.append_nil]
    exact VRL.cells.2 h2
  · split at h
    · rename_i hok
      obtain ⟨h1, h2⟩ := layA_rel h
      exact ⟨fun i hi => by have := h1 i hi; rwa [cellsA_ids hok] at this, fun hv => h2 (cellsA_rel hok hv)⟩
    · cases h
theorem allocL_wr {e : TypeId} (hd : dec ops k n F' = some o) (hop : o.op = .alloc e) {ls : Option Lay} {cs cs' : List (AV T.U)} (hz : zeroA T P e = some cs) (hl : layA T ls cs = some cs') (h : Sim T w0 S0 ⟨F, H⟩ F' w S φ)
    (K : Kont P ops Q (k + 1) n ds w0 S0 (⟨updA T F o.dst (.ptr H.length 0), H ++ [.blk e cs']⟩ : St T)) : WR P ops Q k n ds F' w := by
  unfold zeroA at hz
  split at hz
  · rename_i c hc
    simp only [Option.some.injEq] at hz; subst hz
    obtain ⟨g1, g2⟩ := layA_rel hl
    refine WR.alloc (decAlloc_of hd hop) c hc fun g w' hN => K _ _ ⟨g :: S, setR φ H.length ⟨some ⟨g, 0, none⟩, 0, 0, []⟩, ?_⟩
    have h1 := h.add (r := ⟨some ⟨g, 0, none⟩, 0, 0, []⟩) hN.chg hN.fresh hN.blk.lt (fun a ha => at_new ha) (e := .blk e cs')
      ⟨g, c, by rw [setR_eq], hN.blk, by simp, g2 (ofV1_relL T _)⟩ (by intro j hj; have := g1 j hj; rw [ofV1_idsL] at this; cases this)
    refine h1.slot ⟨g, by rw [setR_eq], rfl⟩ ⟨by intro i hi; simp [AV.ids] at hi; subst hi; simp, trivial⟩
  · cases hz
/-- what is surely something. -/
def someA {U : Nat → Type} : AV U → Bool | .ptr _ _ => true | .eptr _ _ _ _ => true | .lptr _ _ _ _ => true | .aptr _ _ _ _ _ _ => true | .fn (.func _) _ _ => true | _ => false
theorem someA_run {x : Operand} (hop : o.op = .nilCheck x) {a : AV T.U} (ha : someA a = true) {v : Value} (h1 : ev F' x = some v) (h2 : VR T w S φ a v) : QR P F' o S φ rd w v := by
  intro w1 _ _
  cases a <;> first | (cases ha; done) | skip
  · obtain ⟨g, _, rfl⟩ := h2; simp [execOp, hop, evD_of h1]
  · obtain ⟨g, _, rfl⟩ := h2; simp [execOp, hop, evD_of h1]
  · obtain ⟨ad, cap, _, _, rfl⟩ := h2; simp [execOp, hop, evD_of h1]
  · rename_i f a b
    cases f <;> first | (cases ha; done) | skip
    obtain ⟨va, vb, rfl, _⟩ := h2; simp [execOp, hop, evD_of h1]
  · obtain ⟨g, _, _, rfl⟩ := h2; simp [execOp, hop, evD_of h1]
end
end Go.X
