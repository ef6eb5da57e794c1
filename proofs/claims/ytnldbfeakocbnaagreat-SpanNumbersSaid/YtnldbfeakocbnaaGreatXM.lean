/- Maps of few known keys. Nothing here is about one program. -/
import Derived.Test.YtnldbfeakocbnaaGreatXA
namespace Go.X
open Go.RowKit Go.V

section
variable {T : Tab} {P : Program} {w w' : World} {S S' : List Nat} {φ φ' : Nat → RA} {w0 : World} {S0 : Ow} {F : AF T} {H : List (Ent T.U)} {F' : PF}
variable {rd : List Nat} {ops : Array Oper} {Q : Exit → Act → World → Prop} {k n : Nat} {ds : List Deferred} {o : Oper}
theorem mapK_spec {t kt et : TypeId} {kd : IntKind} (h : mapK P t = some (kd, kt, et)) : mapInfo P t = some (kt, et, .int kd) := by
  unfold mapK at h
  split at h
  · rename_i kt' et' hu
    split at h
    · rename_i k' hk
      simp only [Option.some.injEq, Prod.mk.injEq] at h
      obtain ⟨rfl, rfl, rfl⟩ := h
      simp [mapInfo, hu, hk]
    · cases h
  · cases h
theorem mkMap_wr {t kt et : TypeId} {kd : IntKind} (hd : dec ops k n F' = some o) (hop : o.op = .makeMap t none) (_ : mapK P t = some (kd, kt, et)) (h : Sim T w0 S0 ⟨F, H⟩ F' w S φ)
    (K : Kont P ops Q (k + 1) n ds w0 S0 (⟨updA T F o.dst (.mp H.length), H ++ [.map kd []]⟩ : St T)) : WR P ops Q k n ds F' w := by
  have hdm : decMkMap ops k n F' = some (o.dst, t) := by
    unfold decMkMap; rw [hd]; cases o; simp only at hop; subst hop; rfl
  refine WR.mkMap hdm fun g w' hN => K _ _ ⟨g :: S, setR φ H.length ⟨some ⟨g, 0, none⟩, 0, 0⟩, ?_⟩
  have h1 := h.add (r := ⟨some ⟨g, 0, none⟩, 0, 0⟩) hN.chg hN.fresh hN.blk.lt (by intro a ha; simp only [Option.some.injEq] at ha; subst ha; rfl) (e := .map kd [])
    ⟨g, #[], 0, by rw [setR_eq], hN.blk, by simp, trivial⟩ (by intro j hj; cases hj)
  exact h1.slot ⟨g, by rw [setR_eq], rfl⟩ ⟨by intro i hi; simp [AV.ids] at hi; subst hi; simp, trivial⟩
theorem MR.find {kd : IntKind} {x : Int} : ∀ {es : List (Int × AV T.U)} {l : List MapEntry} (i : Nat), MR T w S φ kd es l → (∀ p ∈ es, x ≠ p.1) → Instr.findNow (.int kd) (.int kd x) l i = some none
  | [], [], _, _, _ => rfl
  | [], _ :: _, _, h, _ => h.elim
  | _ :: _, [], _, h, _ => h.elim
  | (y, a) :: r, e :: l, i, h, hx => by
    obtain ⟨h1, h2, h3⟩ := h
    have hne : x ≠ y := hx _ (List.mem_cons_self ..)
    unfold Instr.findNow
    rw [h1]
    simp only [Instr.sameNow, if_true]
    rw [show (x == y) = false from by simpa using hne]
    exact MR.find (i + 1) h3 fun p hp => hx p (List.mem_cons_of_mem _ hp)
theorem MR.snoc {kd : IntKind} {x : Int} {a : AV T.U} {v : Value} {c : Nat} (hv : VR T w S φ a v) : ∀ {es : List (Int × AV T.U)} {l : List MapEntry}, MR T w S φ kd es l → MR T w S φ kd (es ++ [(x, a)]) (l ++ [{ key := .int kd x, val := v, born := c }])
  | [], [], _ => ⟨rfl, hv, trivial⟩
  | [], _ :: _, h => h.elim
  | _ :: _, [], h => h.elim
  | (_, _) :: _, _ :: _, h => ⟨h.1, h.2.1, MR.snoc hv h.2.2⟩
theorem idsM_snoc {U : Nat → Type} (es : List (Int × AV U)) (x : Int) (a : AV U) : idsM (es ++ [(x, a)]) = idsM es ++ a.ids := by
  induction es with
  | nil => simp [idsM]
  | cons p r ih => obtain ⟨y, b⟩ := p; rw [List.cons_append, idsM, idsM, ih, List.append_assoc]
theorem insert_wr {t : TypeId} {xm xk xv : Operand} (hd : dec ops k n F' = some o) (hop : o.op = .insert t xm xk xv ∨ o.op = .mapUpdate t xm xk xv) (hdst : o.dst = none) {m a : AV T.U} {kx : IntKind} {x : Int} (hm : aev T F xm = some m) (hk : aev T F xk = some (cI T kx x)) (hv : aev T F xv = some a) {H1 : List (Ent T.U)} (hi : insA T P t H m kx x a = some H1)
    (h : Sim T w0 S0 ⟨F, H⟩ F' w S φ) (K : Kont P ops Q (k + 1) n ds w0 S0 (⟨F, H1⟩ : St T)) : WR P ops Q k n ds F' w := by
  obtain ⟨M, h1, h2⟩ := aev_rel h.fr hm
  obtain ⟨X, h3, h4⟩ := aev_rel h.fr hk
  obtain ⟨V, h5, h6⟩ := aev_rel h.fr hv
  have e := cint_rel h4; subst e
  have hok := aev_ok h hv
  unfold insA at hi
  split at hi
  · rename_i i kd kt et hmk
    split at hi
    · rename_i kd' es hHi
      split at hi
      · rename_i hb
        rw [Bool.and_eq_true, Bool.and_eq_true] at hb
        obtain ⟨b1, b2, b3⟩ := hb
        have b1 := kindEq_eq b1; have b2 := kindEq_eq b2
        subst b1; subst b2
        simp only [Option.some.injEq] at hi; subst hi
        obtain ⟨g, hg, rfl⟩ := h2
        obtain ⟨g', l, c, a1, a2, a3, a4⟩ := h.ents i _ hHi
        rw [hg] at a1; simp only [Option.some.injEq, Addr.mk.injEq, and_true] at a1; subst a1
        have hdi : decInsert ops k n F' = some (t, .map (some g), .int kx x, V) := by
          unfold decInsert; rw [hd]
          rcases hop with hop | hop <;> (cases o; simp only at hop hdst; subst hop; subst hdst; simp only [evD_of h1, evD_of h3, evD_of h5])
        have hne : ∀ p ∈ es, x ≠ p.1 := by
          intro p hp e
          have := List.all_eq_true.1 b3 p hp
          simp [eqII, e] at this
        refine WR.insert a2 hdi (mapK_spec hmk) rfl (MR.find 0 a4 hne) _ rfl fun w' hM hC => K _ _ ⟨S, φ, h.upd hHi rfl hC ?_ ⟨g, _, _, hg, hM, a3, ?_⟩ ?_ ?_⟩
        · intro b hb; simp at hb; subst hb; exact ⟨_, hg, rfl⟩
        · rw [Array.toList_push]
          have hT : ∀ b ∈ [g], b ∈ S := by intro b hb; simp at hb; subst hb; exact a3
          exact MR.snoc (h6.chg T hC hT fun b hb => .inl hb) (a4.chg T hC hT fun b hb => .inl hb)
        · intro q hq
          rw [Ent.cellIds, idsM_snoc] at hq
          rcases List.mem_append.1 hq with hq | hq
          · exact h.eids _ _ hHi q hq
          · exact hok.1 q hq
        · intro e1 t1 xs he; cases he
      · cases hi
    · cases hi
  · cases hi
theorem lookM_rel {R : Type} {r : R} {kd : IntKind} {x : Int} {co : Bool} {z : AV T.U} {Z : Value} (hz : VR T w S φ z Z) {K : AV T.U → Option R} : ∀ {es : List (Int × AV T.U)} {l : List MapEntry} (i : Nat), lookM T co z x K es = some r → MR T w S φ kd es l →
    ∃ a q, K a = some r ∧ Instr.findNow (.int kd) (.int kd x) l i = some q ∧ VR T w S φ a (lkV Z co q) ∧ ∀ j ∈ a.ids, j ∈ z.ids ∨ j ∈ idsM es
  | [], [], i, h, _ => by
    refine ⟨_, none, h, rfl, ?_, fun j hj => .inl ?_⟩
    · cases co
      · exact hz
      · exact ⟨_, rfl, hz, CR.bool _, trivial⟩
    · cases co
      · exact hj
      · simpa [AV.ids, idsL] using hj
  | [], _ :: _, _, _, h => h.elim
  | _ :: _, [], _, _, h => h.elim
  | (y, b) :: es, e :: l, i, h, hm => by
    obtain ⟨h1, h2, h3⟩ := hm
    unfold lookM at h
    unfold Instr.findNow
    rw [h1]
    simp only [Instr.sameNow, if_true]
    split at h
    · rename_i he
      subst he
      rw [show (x == x) = true from by simp]
      refine ⟨_, some (i, e.val), h, rfl, ?_, fun j hj => .inr ?_⟩
      · cases co
        · exact h2
        · exact ⟨_, rfl, h2, CR.bool _, trivial⟩
      · rw [idsM]
        cases co
        · exact List.mem_append.2 (.inl hj)
        · exact List.mem_append.2 (.inl (by simpa [AV.ids, idsL] using hj))
    · rename_i hne
      rw [show (x == y) = false from by simpa using hne]
      obtain ⟨a, q, q1, q2, q3, q4⟩ := lookM_rel hz (i + 1) h h3
      exact ⟨a, q, q1, q2, q3, fun j hj => (q4 j hj).imp id fun hj => by rw [idsM]; exact List.mem_append.2 (.inr hj)⟩
theorem lookA_q {Z : Prop} {R : Type} {r : R} {t : TypeId} {xm xk : Operand} {co : Bool} (hd : dec ops k n F' = some o) (hop : o.op = .lookup t xm xk co) {m : AV T.U} {kx : IntKind} {x : Int} (hm : aev T F xm = some m) (hk : aev T F xk = some (cI T kx x)) {K0 : AV T.U → Option R} (hl : lookA T P t co H m kx x K0 = some r)
    (h : Sim T w0 S0 ⟨F, H⟩ F' w S φ) (hrd : ∀ i ∈ m.ids, i ∈ rd) (K : ∀ a v, K0 a = some r → QR P F' o S φ rd w v → VR T w S φ a v → (∀ i ∈ a.ids, i < H.length) → Z) : Z := by
  obtain ⟨M, h1, h2⟩ := aev_rel h.fr hm
  obtain ⟨X, h3, h4⟩ := aev_rel h.fr hk
  have e := cint_rel h4; subst e
  unfold lookA at hl
  split at hl
  · rename_i i kd kt et hmk
    split at hl
    · rename_i kd' es hHi
      split at hl
      · rename_i z hb hz
        rw [Bool.and_eq_true] at hb
        obtain ⟨b1, b2⟩ := hb
        have b1 := kindEq_eq b1; have b2 := kindEq_eq b2
        subst b1; subst b2
        obtain ⟨g, hg, rfl⟩ := h2
        obtain ⟨g', l, c, a1, a2, a3, a4⟩ := h.ents i _ hHi
        rw [hg] at a1; simp only [Option.some.injEq, Addr.mk.injEq, and_true] at a1; subst a1
        obtain ⟨zv, hzv, hze⟩ : ∃ zv, (P.info? et).bind (·.zero) = some zv ∧ z = ofV T zv := by
          unfold zeroV at hz
          split at hz
          · rename_i inf hinf
            split at hz
            · rename_i zv hzv
              simp only [Option.some.injEq] at hz
              exact ⟨zv, by rw [hinf]; exact hzv, hz.symm⟩
            · cases hz
          · cases hz
        subst hze
        obtain ⟨a, q, q1, q2, q3, q4⟩ := lookM_rel (ofV_rel T zv) 0 hl a4
        have hdl : decLookup ops k n F' = some (o.dst, t, .map (some g), .int kx x, co) := by
          unfold decLookup; rw [hd]; cases o; simp only at hop; subst hop; simp only [evD_of h1, evD_of h3]
        refine K a _ q1 (fun w1 _ hsm => ?_) q3 fun j hj => ?_
        · have hm1 : Mp w1 g l c := (hsm i (hrd i (by simp [AV.ids])) _ hg a2.lt).trans a2
          have hr := run_lookup (P := P) hm1 hdl (mapK_spec hmk) rfl q q2 hzv _ rfl
          unfold decRun at hr
          rw [hd] at hr
          simp only [Option.some.injEq, Prod.mk.injEq] at hr
          exact hr.2
        · rcases q4 j hj with hj | hj
          · rw [ofV_ids] at hj; cases hj
          · exact h.eids _ _ hHi j hj
      · cases hl
    · cases hl
  · cases hl
end
end Go.X
