/- The interpreter's values are the machine's: operations that make a value of values. Nothing here is about one program. -/
import Derived.Test.YtjjlcenmifcaeaaX2
namespace Go.X
open Go.RowKit Go.V

section
variable (T : Tab) (P : Program) {w : World} {S : List Nat} {φ : Nat → RA}
/-- a frame. -/
def FR (w : World) (S : List Nat) (φ : Nat → RA) (F : AF T) (F' : PF) : Prop := ∀ i a, F.get T i = some a → ∃ v, F'.get i = some v ∧ VR T w S φ a v
theorem ofV1_rel (v : Value) : VR T w S φ (ofV1 T v) v := by
  cases v <;> first | exact .int _ _ | exact .bool _ | exact .str _ | rfl
theorem ofV1_relL : ∀ (l : List Value), VRL T w S φ (l.map (ofV1 T)) l
  | [] => trivial
  | v :: r => ⟨ofV1_rel T v, ofV1_relL r⟩
theorem ofV_rel (v : Value) : VR T w S φ (ofV T v) v := by
  have h : VR T w S φ (ofV1 T v) v := ofV1_rel T v
  cases v <;> first | exact h | exact ⟨_, rfl, ofV1_relL T _⟩
variable {T}
theorem aev_rel {F : AF T} {F' : PF} (hF : FR T w S φ F F') {x : Operand} {a : AV T.U} (h : aev T F x = some a) : ∃ v, ev F' x = some v ∧ VR T w S φ a v := by
  cases x with
  | tmp t => exact hF t a h
  | const v => simp only [aev, Option.some.injEq] at h; subst h; exact ⟨v, rfl, ofV_rel T v⟩
  | global g => cases h
  | func f => simp only [aev, Option.some.injEq] at h; subst h; exact ⟨_, rfl, #[], #[], rfl, trivial, trivial⟩
theorem aevL_rel {F : AF T} {F' : PF} (hF : FR T w S φ F F') : ∀ {l : List Operand} {as : List (AV T.U)}, aevL T F l = some as → VRL T w S φ as (l.map (evD F'))
  | [], as, h => by simp only [aevL, Option.some.injEq] at h; subst h; trivial
  | x :: r, as, h => by
    unfold aevL at h
    split at h
    · rename_i a l ha hl
      simp only [Option.some.injEq] at h; subst h
      obtain ⟨v, h1, h2⟩ := aev_rel hF ha
      exact ⟨by simpa [evD, h1] using h2, aevL_rel hF hl⟩
    · cases h
theorem evD_of {F' : PF} {x : Operand} {v : Value} (h : ev F' x = some v) : evD F' x = v := by simp [evD, h]
theorem cint_rel {k : IntKind} {x : Int} {v : Value} (h : VR T w S φ (.cell ⟨.int k, x⟩) v) : v = .int k x := by
  have h : CR T w S (.int k) x v := h
  cases h; rfl
theorem cbool_rel {b : Bool} {v : Value} (h : VR T w S φ (.cell ⟨.bool, b⟩) v) : v = .bool b := by
  have h : CR T w S .bool b v := h
  cases h; rfl
theorem cstr_rel {s : ByteArray} {v : Value} (h : VR T w S φ (.cell ⟨.str, s⟩) v) : v = .string s := by
  have h : CR T w S .str s v := h
  cases h; rfl
theorem conc1_rel {a : AV T.U} {u v : Value} (h : conc1 T a = some u) (hv : VR T w S φ a v) : v = u := by
  unfold conc1 at h
  split at h
  · simp only [Option.some.injEq] at h; subst h; exact cint_rel hv
  · simp only [Option.some.injEq] at h; subst h; exact cbool_rel hv
  · simp only [Option.some.injEq] at h; subst h; exact cstr_rel hv
  · simp only [Option.some.injEq] at h; subst h; exact hv
  · cases h
theorem concL_rel : ∀ {as : List (AV T.U)} {us vs : List Value}, concL T as = some us → VRL T w S φ as vs → vs = us
  | [], us, vs, h, hv => by
    simp only [concL, Option.some.injEq] at h; subst h
    cases vs with | nil => rfl | cons _ _ => exact hv.elim
  | a :: r, us, vs, h, hv => by
    unfold concL at h
    split at h
    · rename_i u l hu hl
      simp only [Option.some.injEq] at h; subst h
      cases vs with
      | nil => exact hv.elim
      | cons v s => rw [conc1_rel hu hv.1, concL_rel hl hv.2]
    · cases h
theorem conc_rel {a : AV T.U} {u v : Value} (h : conc T a = some u) (hv : VR T w S φ a v) : v = u := by
  unfold conc at h
  split at h
  · split at h
    · rename_i l hl
      simp only [Option.some.injEq] at h; subst h
      obtain ⟨vs, rfl, h2⟩ := hv
      have := concL_rel hl h2
      cases vs; simp_all
    · cases h
  · exact conc1_rel h hv
theorem kindEq_eq {a b : IntKind} (h : kindEq a b = true) : a = b := by cases a <;> cases b <;> first | rfl | cases h
theorem binI_run {b : BinOp} {k : IntKind} {x y : Int} {a : AV T.U} (h : binI T b k x y = some a) (t : TypeId) : ∃ v, (∀ w0, (binOp b t (.int k x) (.int k y)).run P w0 = .ok v w0) ∧ VR T w S φ a v := by
  cases b <;> simp only [binI, Option.some.injEq, reduceCtorEq] at h <;> subst h <;> first | (refine ⟨_, fun w0 => ?_, CR.int _ _⟩; simp [binOp, Op.intArith, Op.intBits, bAnd, bOr, bXor, bAndNot]; done) | (refine ⟨_, fun w0 => ?_, CR.bool _⟩; simp [binOp, Op.intCmp]; done)
def refV : Value → Bool | .pointer _ => true | .slice _ _ _ => true | .map _ => true | .func _ _ _ => true | .nilFunc => true | .iface _ _ => true | .nilIface => true | _ => false
theorem eql_fin {t : TypeId} {X Y : Value} {r : Bool} {b : BinOp} {neg : Bool} (hb : b = if neg then .neq else .eql) (hX : refV X = true) (hY : refV Y = true) (h : ∀ w0, (Op.equalIn 10000 t X Y).run P w0 = .ok r w0) (w0 : World) : (binOp b t X Y).run P w0 = .ok (.bool (negB neg r)) w0 := by
  subst hb
  cases X <;> first | (cases hX; done) | (cases Y <;> first | (cases hY; done) | (cases neg <;> simp [binOp, Op.equal, Op.maxDepth, h, negB]))
theorem guard_fin {t : TypeId} {X Y : Value} {b : BinOp} (x' y' : Operand) (hX : refV X = true) (hY : refV Y = true) (hn : X ≠ .nilIface ∨ Y ≠ .nilIface) (w0 : World) : (eqGuard b t x' y' X Y).run P w0 = .ok () w0 := by
  cases X <;> first | (cases hX; done) | (cases Y <;> first | (cases hY; done) | (simp at hn; done) | (cases b <;> simp [eqGuard]))
theorem eqIn_ptr {t e : TypeId} (hu : P.underlying t = some (.pointer e)) (a : Option Addr) (w0 : World) : (Op.equalIn (9999 + 1) t (.pointer none) (.pointer a)).run P w0 = .ok a.isNone w0 ∧ (Op.equalIn (9999 + 1) t (.pointer a) (.pointer none)).run P w0 = .ok a.isNone w0 := by
  cases a <;> constructor <;> (rw [Op.equalIn]; simp [run_underlying hu])
theorem eqIn_sl {t e : TypeId} (hu : P.underlying t = some (.slice e)) (m c : Nat) (a : Option Addr) (m' c' : Nat) (w0 : World) : (Op.equalIn (9999 + 1) t (.slice none m c) (.slice a m' c')).run P w0 = .ok a.isNone w0 ∧ (Op.equalIn (9999 + 1) t (.slice a m' c') (.slice none m c)).run P w0 = .ok a.isNone w0 := by
  cases a <;> constructor <;> (rw [Op.equalIn]; simp [run_underlying hu])
theorem eqIn_map {t e e' : TypeId} (hu : P.underlying t = some (.map e e')) (a : Option Nat) (w0 : World) : (Op.equalIn (9999 + 1) t (.map none) (.map a)).run P w0 = .ok a.isNone w0 ∧ (Op.equalIn (9999 + 1) t (.map a) (.map none)).run P w0 = .ok a.isNone w0 := by
  cases a <;> constructor <;> (rw [Op.equalIn]; simp [run_underlying hu])
theorem nilA_run {lit : Bool} {t : TypeId} {x y : AV T.U} {r : Bool} (h : nilA T P t lit x y = some r) {X Y : Value} (hx : VR T w S φ x X) (hy : VR T w S φ y Y) {b : BinOp} {neg : Bool} (hb : b = if neg then .neq else .eql) (x' y' : Operand) (hl : lit = true → isLit x' = true ∨ isLit y' = true) :
    ((∀ w0, (eqGuard b t x' y' X Y).run P w0 = .ok () w0) ∧ ∀ w0, (eqGuard b t x' y' Y X).run P w0 = .ok () w0) ∧ (∀ w0, (binOp b t X Y).run P w0 = .ok (.bool (negB neg r)) w0) ∧ ∀ w0, (binOp b t Y X).run P w0 = .ok (.bool (negB neg r)) w0 := by
  have fin : ∀ X Y : Value, refV X = true → refV Y = true → (X ≠ .nilIface ∨ Y ≠ .nilIface) → (∀ w0, (Op.equalIn (9999 + 1) t X Y).run P w0 = .ok r w0) → (∀ w0, (Op.equalIn (9999 + 1) t Y X).run P w0 = .ok r w0) →
      ((∀ w0, (eqGuard b t x' y' X Y).run P w0 = .ok () w0) ∧ ∀ w0, (eqGuard b t x' y' Y X).run P w0 = .ok () w0) ∧ (∀ w0, (binOp b t X Y).run P w0 = .ok (.bool (negB neg r)) w0) ∧ ∀ w0, (binOp b t Y X).run P w0 = .ok (.bool (negB neg r)) w0 :=
    fun X Y h1 h2 h3 h4 h5 => ⟨⟨guard_fin P x' y' h1 h2 h3, guard_fin P x' y' h2 h1 h3.symm⟩, eql_fin P hb h1 h2 h4, eql_fin P hb h2 h1 h5⟩
  have lits : ∀ w0, lit = true → (eqGuard b t x' y' .nilIface .nilIface).run P w0 = .ok () w0 := by
    intro w0 hl0
    unfold eqGuard
    rcases hl hl0 with h1 | h1
    · cases x' <;> first | (cases h1; done) | (cases b <;> simp)
    · cases y' <;> first | (cases h1; done) | (cases b <;> simp)
  unfold nilA at h
  split at h
  · rename_i n
    rw [VR] at hx; subst hx
    split at h
    · rename_i hu
      split at h
      · split at h <;> simp only [Option.some.injEq, reduceCtorEq] at h <;> subst h
        · rw [VR] at hy; subst hy
          exact fin _ _ rfl rfl (.inl (by simp)) (fun w0 => (eqIn_ptr P hu _ w0).1) (fun w0 => (eqIn_ptr P hu _ w0).2)
        · obtain ⟨g, _, rfl⟩ := hy
          exact fin _ _ rfl rfl (.inl (by simp)) (fun w0 => (eqIn_ptr P hu _ w0).1) (fun w0 => (eqIn_ptr P hu _ w0).2)
        · obtain ⟨g, _, rfl⟩ := hy
          exact fin _ _ rfl rfl (.inl (by simp)) (fun w0 => (eqIn_ptr P hu _ w0).1) (fun w0 => (eqIn_ptr P hu _ w0).2)
        · obtain ⟨ad, cap, _, _, rfl⟩ := hy
          exact fin _ _ rfl rfl (.inl (by simp)) (fun w0 => (eqIn_ptr P hu _ w0).1) (fun w0 => (eqIn_ptr P hu _ w0).2)
        · obtain ⟨g, _, _, rfl⟩ := hy
          exact fin _ _ rfl rfl (.inl (by simp)) (fun w0 => (eqIn_ptr P hu _ w0).1) (fun w0 => (eqIn_ptr P hu _ w0).2)
      · cases h
    · rename_i hu
      split at h
      · split at h <;> simp only [Option.some.injEq, reduceCtorEq] at h <;> subst h
        · rw [VR] at hy; subst hy
          exact fin _ _ rfl rfl (.inl (by simp)) (fun w0 => by rw [Op.equalIn]; simp [run_underlying hu]) (fun w0 => by rw [Op.equalIn]; simp [run_underlying hu])
        · obtain ⟨va, vb, rfl, _⟩ := hy
          exact fin _ _ rfl rfl (.inl (by simp)) (fun w0 => by rw [Op.equalIn]; simp [run_underlying hu]) (fun w0 => by rw [Op.equalIn]; simp [run_underlying hu])
      · cases h
    · rename_i ms hu
      split at h
      · split at h
        · simp only [Option.some.injEq] at h; subst h
          obtain ⟨u, rfl, _⟩ := hy
          exact fin _ _ rfl rfl (.inr (by simp)) (fun w0 => by rw [Op.equalIn]; simp [run_underlying hu]) (fun w0 => by rw [Op.equalIn]; simp [run_underlying hu])
        · split at h
          · rename_i hbm
            simp only [Option.some.injEq] at h; subst h
            rw [VR] at hy; subst hy
            have hg : ∀ w0, (eqGuard b t x' y' .nilIface .nilIface).run P w0 = .ok () w0 := by
              intro w0
              rcases (Bool.or_eq_true _ _).mp hbm with h1 | h1
              · exact lits w0 h1
              · have hi : (Op.eqGuardIn Op.maxDepth t .nilIface .nilIface).run P w0 = .ok false w0 := by
                  rw [show Op.maxDepth = 9999 + 1 from rfl, Op.eqGuardIn]; simp [run_underlying hu, h1]
                unfold eqGuard
                cases b <;> simp [hi] <;> (split <;> rfl)
            have he : ∀ w0, (Op.equalIn (9999 + 1) t .nilIface .nilIface).run P w0 = .ok true w0 := fun w0 => by rw [Op.equalIn]; simp [run_underlying hu]
            exact ⟨⟨hg, hg⟩, eql_fin P hb rfl rfl he, eql_fin P hb rfl rfl he⟩
          · cases h
        · cases h
      · cases h
    · rename_i hu
      split at h
      · split at h <;> simp only [Option.some.injEq, reduceCtorEq] at h <;> subst h
        · rw [VR] at hy; subst hy
          exact fin _ _ rfl rfl (.inl (by simp)) (fun w0 => (eqIn_map P hu _ w0).1) (fun w0 => (eqIn_map P hu _ w0).2)
        · obtain ⟨g, _, rfl⟩ := hy
          exact fin _ _ rfl rfl (.inl (by simp)) (fun w0 => (eqIn_map P hu _ w0).1) (fun w0 => (eqIn_map P hu _ w0).2)
      · cases h
    · rename_i hu
      split at h
      · split at h <;> simp only [Option.some.injEq, reduceCtorEq] at h <;> subst h
        · rw [VR] at hy; subst hy
          exact fin _ _ rfl rfl (.inl (by simp)) (fun w0 => (eqIn_sl P hu _ _ _ _ _ w0).1) (fun w0 => (eqIn_sl P hu _ _ _ _ _ w0).2)
        · obtain ⟨g, ad, _, rfl, _⟩ := hy
          exact fin _ _ rfl rfl (.inl (by simp)) (fun w0 => (eqIn_sl P hu _ _ _ _ _ w0).1) (fun w0 => (eqIn_sl P hu _ _ _ _ _ w0).2)
      · cases h
    · cases h
  · cases h
theorem eqA_run {b : BinOp} {neg : Bool} (hb : b = if neg then .neq else .eql) {lit : Bool} {t : TypeId} {x y : AV T.U} {a : AV T.U} (h : eqA T P t lit x y neg = some a) {X Y : Value} (hx : VR T w S φ x X) (hy : VR T w S φ y Y) (x' y' : Operand) (hl : lit = true → isLit x' = true ∨ isLit y' = true) :
    (∀ w0, (eqGuard b t x' y' X Y).run P w0 = .ok () w0) ∧ ∃ v, (∀ w0, (binOp b t X Y).run P w0 = .ok v w0) ∧ VR T w S φ a v := by
  unfold eqA at h
  split at h
  · rename_i r hr
    simp only [Option.some.injEq] at h; subst h
    obtain ⟨⟨h1, _⟩, h2, _⟩ := nilA_run P hr hx hy hb x' y' hl
    exact ⟨h1, _, h2, CR.bool _⟩
  split at h
  · rename_i r hr
    simp only [Option.some.injEq] at h; subst h
    obtain ⟨⟨_, h1⟩, _, h2⟩ := nilA_run P hr hy hx hb x' y' hl
    exact ⟨h1, _, h2, CR.bool _⟩
  split at h
  · rename_i p q hp hq
    have e1 := conc_rel hp hx; have e2 := conc_rel hq hy
    subst e1; subst e2
    split at h
    · rename_i r hr
      simp only [Option.some.injEq] at h; subst h
      have hrun := eqB_run (P := P) 10000 t _ _ r hr
      subst hb
      refine ⟨fun w0 => by cases neg <;> simp [eqGuard], _, fun w0 => ?_, CR.bool _⟩
      cases neg <;> simp [binOp, Op.equal, Op.maxDepth, hrun]
    · cases h
  · rename_i p q hp hq
    have e1 := conc_rel hp hx; have e2 := conc_rel hq hy
    subst e1; subst e2
    simp only at h
    split at h
    · rename_i hg
      split at h
      · rename_i r hr
        simp only [Option.some.injEq] at h; subst h
        have hrun := eqB_run (P := P) 10000 t _ _ r hr
        have hpr : ∀ w0, (program).run P w0 = .ok P w0 := fun _ => rfl
        subst hb
        refine ⟨fun w0 => by cases neg <;> simp [eqGuard, hpr, hg], _, fun w0 => ?_, CR.bool _⟩
        cases neg <;> simp [binOp, Op.equal, Op.maxDepth, hrun]
      · cases h
    · cases h
  · cases h
theorem binA_run {b : BinOp} {t : TypeId} {lit : Bool} {x y a : AV T.U} (h : binA T P b t lit x y = some a) {X Y : Value} (hx : VR T w S φ x X) (hy : VR T w S φ y Y) (x' y' : Operand) (hl : lit = true → isLit x' = true ∨ isLit y' = true) :
    (∀ w0, (eqGuard b t x' y' X Y).run P w0 = .ok () w0) ∧ ∃ v, (∀ w0, (binOp b t X Y).run P w0 = .ok v w0) ∧ VR T w S φ a v := by
  unfold binA at h
  split at h
  · split at h
    · rename_i hk
      have := kindEq_eq hk; subst this
      have e1 := cint_rel hx; have e2 := cint_rel hy
      subst e1; subst e2
      exact ⟨fun w0 => by simp [eqGuard], binI_run P h t⟩
    · cases h
  · simp only [Option.some.injEq] at h; subst h
    have e1 := cstr_rel hx; have e2 := cstr_rel hy
    subst e1; subst e2
    exact ⟨fun w0 => by simp [eqGuard], _, fun w0 => by simp [binOp, Op.stringOp], CR.bool _⟩
  · simp only [Option.some.injEq] at h; subst h
    have e1 := cstr_rel hx; have e2 := cstr_rel hy
    subst e1; subst e2
    exact ⟨fun w0 => by simp [eqGuard], _, fun w0 => by simp [binOp, Op.stringOp], CR.bool _⟩
  · exact eqA_run P (neg := false) rfl h hx hy x' y' hl
  · exact eqA_run P (neg := true) rfl h hx hy x' y' hl
  · cases h
theorem unA_run {u : UnOp} {x a : AV T.U} (h : unA T u x = some a) {X : Value} (hx : VR T w S φ x X) : ∃ v, (∀ w0, (Op.unary u X).run P w0 = .ok v w0) ∧ VR T w S φ a v := by
  unfold unA at h
  split at h
  · have e1 := cint_rel hx; subst e1
    unfold unI at h
    split at h
    · simp only [Option.some.injEq] at h; subst h
      exact ⟨_, fun w0 => by simp [Op.unary, Op.intArith], CR.int _ _⟩
    · simp only [Option.some.injEq] at h; subst h
      exact ⟨_, fun w0 => by simp [Op.unary, Op.intBits, bXor], CR.int _ _⟩
    · cases h
  · have e1 := cbool_rel hx; subst e1
    split at h
    · simp only [Option.some.injEq] at h; subst h
      exact ⟨_, fun w0 => by simp [Op.unary], CR.bool _⟩
    · cases h
  · cases h
theorem extract_toList {α : Type} (vs : Array α) (o n : Nat) : (vs.extract o (o + n)).toList = (vs.toList.drop o).take n := by
  rw [Array.toList_extract, List.extract_eq_take_drop]; congr 1; omega
theorem cutA_rel {cs : List (AV T.U)} {vs : Array Value} (h : VRL T w S φ cs vs.toList) {o n : Nat} {ag : Bool} {a : AV T.U} (hc : cutA T cs o n ag = some a) :
    ∃ v, (if ag then some (Value.agg (vs.extract o (o + n))) else vs[o]?) = some v ∧ VR T w S φ a v ∧ (ag = true → o + n ≤ vs.size) := by
  unfold cutA at hc
  split at hc
  · split at hc
    · rename_i hle
      simp only [Option.some.injEq] at hc; subst hc
      refine ⟨_, rfl, ⟨_, rfl, ?_⟩, fun _ => ?_⟩
      · rw [extract_toList]; exact (h.drop T o).take T n
      · have h1 := Nat.le_of_ble_eq_true hle; have h2 := h.len T; simp at h2; omega
    · cases hc
  · obtain ⟨v, h1, h2⟩ := h.get T hc
    exact ⟨v, by simpa using h1, h2, fun h => by cases h⟩
theorem locB_spec : ∀ {cs l : List (AV T.U)} {o : Nat}, locB T cs o = some l → lensA T cs → ∃ pre, cs = pre ++ l ∧ (expL T pre).length = o
  | [], _, _, h, _ => by cases h
  | a :: r, l, o, h, hl => by
    unfold locB at h
    split at h
    · rename_i ho
      simp only [Option.some.injEq] at h; subst h
      exact ⟨[], rfl, (Nat.eq_of_beq_eq_true ho).symm⟩
    · split at h
      · rename_i hle
        obtain ⟨pre, h1, h2⟩ := locB_spec h hl.2
        refine ⟨a :: pre, by rw [h1]; rfl, ?_⟩
        rw [expL, List.length_append, exp1_len T hl.1, h2]
        have := Nat.le_of_ble_eq_true hle; omega
      · cases h
theorem turnB_spec {f : List (AV T.U) → Option (List (AV T.U))} : ∀ {cs cs' : List (AV T.U)} {o : Nat}, turnB T f cs o = some cs' → lensA T cs → ∃ pre l l', cs = pre ++ l ∧ cs' = pre ++ l' ∧ f l = some l' ∧ (expL T pre).length = o
  | [], _, o, h, _ => by
    unfold turnB at h
    split at h
    · rename_i ho
      exact ⟨[], _, _, rfl, rfl, h, (Nat.eq_of_beq_eq_true ho).symm⟩
    · cases h
  | a :: r, cs', o, h, hl => by
    unfold turnB at h
    split at h
    · rename_i ho
      exact ⟨[], _, _, rfl, rfl, h, (Nat.eq_of_beq_eq_true ho).symm⟩
    · split at h
      · rename_i hle
        split at h
        · rename_i l0 hl0
          simp only [Option.some.injEq] at h; subst h
          obtain ⟨pre, l, l', h1, h2, h3, h4⟩ := turnB_spec hl0 hl.2
          refine ⟨a :: pre, l, l', by rw [h1]; rfl, by rw [h2]; rfl, h3, ?_⟩
          rw [expL, List.length_append, exp1_len T hl.1, h4]
          have := Nat.le_of_ble_eq_true hle; omega
        · cases h
      · cases h
theorem arrI_eq {U : Nat → Type} {a : AV U} {t : Ty} {n : Nat} {xs : List (den U t)} (h : arrI a = some ⟨t, n, xs⟩) : a = .arr t n xs := by
  cases a <;> simp only [arrI, Option.some.injEq, reduceCtorEq, Sigma.mk.injEq] at h
  obtain ⟨rfl, h⟩ := h
  have := eq_of_heq h
  simp only [Prod.mk.injEq] at this
  obtain ⟨rfl, rfl⟩ := this
  rfl
/-- what lies from a place on. -/
theorem BR.at {cs : List (AV T.U)} {vs : List Value} (h : BR T w S φ cs vs) {pre l : List (AV T.U)} (he : cs = pre ++ l) {o : Nat} (ho : (expL T pre).length = o) : BR T w S φ l (vs.drop o) ∧ o + (expL T l).length = vs.length := by
  obtain ⟨h1, h2⟩ := h
  have hl := h1.len T
  rw [he, expL_app] at h1 hl
  rw [he, lensA_app] at h2
  have := h1.drop T o
  rw [List.drop_append_of_le_length (by omega), List.drop_of_length_le (by omega), List.nil_append] at this
  refine ⟨⟨this, h2.2⟩, ?_⟩
  rw [List.length_append] at hl; omega
/-- one cell of a block, seen otherwise. -/
theorem BR.swap {a b : AV T.U} (ha : notArr T a = true) (hb : notArr T b = true) (hi : ∀ v, VR T w S φ a v → VR T w S φ b v) : ∀ {cs : List (AV T.U)} {vs : List Value} {c : Nat}, BR T w S φ cs vs → cs[c]? = some a → BR T w S φ (cs.set c b) vs
  | [], _, _, _, h => by simp at h
  | x :: r, vs, 0, h, hc => by
    simp only [List.getElem?_cons_zero, Option.some.injEq] at hc; subst hc
    obtain ⟨h1, h2⟩ := h
    rw [expL, exp1_one T ha] at h1
    match vs, h1 with
    | v :: vs, h1 => exact ⟨by rw [List.set_cons_zero, expL, exp1_one T hb]; exact ⟨hi v h1.1, h1.2⟩, lenA1_one T hb, h2.2⟩
  | x :: r, vs, c + 1, h, hc => by
    obtain ⟨h3, h4⟩ := BR.at h (pre := [x]) (l := r) rfl rfl
    have h5 := BR.swap ha hb hi h3 (by simpa using hc)
    have h6 := h.1.take T (expL T [x]).length
    have he : expL T (x :: r) = expL T [x] ++ expL T r := expL_app T [x] r
    rw [he, List.take_append_of_le_length (Nat.le_refl _), List.take_of_length_le (Nat.le_refl _)] at h6
    refine ⟨?_, h.2.1, h5.2⟩
    rw [List.set_cons_succ]
    have he2 : expL T (x :: r.set c b) = expL T [x] ++ expL T (r.set c b) := expL_app T [x] _
    rw [he2]
    have := VRL.app T h6 h5.1
    rwa [List.take_append_drop] at this
theorem VRL.cells : ∀ {cs : List (Cell T.U)} {vs : List Value}, VRL T w S φ (cs.map .cell) vs ↔ CellsR T w S cs vs := by
  intro cs
  induction cs with
  | nil =>
    intro vs
    cases vs with
    | nil => exact ⟨fun _ => ⟨rfl, fun j c v h => by simp at h⟩, fun _ => trivial⟩
    | cons v r => exact ⟨fun h => h.elim, fun h => by cases h.1⟩
  | cons c r ih =>
    intro vs
    cases vs with
    | nil => exact ⟨fun h => h.elim, fun h => by cases h.1⟩
    | cons v s =>
      constructor
      · intro h
        obtain ⟨h1, h2⟩ := ih.1 h.2
        refine ⟨by simp [h1], fun j c' v' h3 h4 => ?_⟩
        cases j with
        | zero => simp only [List.getElem?_cons_zero, Option.some.injEq] at h3 h4; subst h3; subst h4; exact h.1
        | succ j => exact h2 j c' v' (by simpa using h3) (by simpa using h4)
      · intro h
        refine ⟨h.2 0 c v rfl rfl, ih.2 ⟨by have := h.1; simpa using this, fun j c' v' h3 h4 => h.2 (j + 1) c' v' (by simpa using h3) (by simpa using h4)⟩⟩
theorem cutB_rel {cs : List (AV T.U)} {vs : Array Value} (h : BR T w S φ cs vs.toList) {o n : Nat} {ag : Bool} {a : AV T.U} (hc : cutB T cs o n ag = some a) :
    ∃ v, (if ag then some (Value.agg (vs.extract o (o + n))) else vs[o]?) = some v ∧ VR T w S φ a v ∧ (ag = true → o + n ≤ vs.size) := by
  unfold cutB at hc
  split at hc
  · rename_i b r hloc
    obtain ⟨pre, h1, h2⟩ := locB_spec hloc h.2
    obtain ⟨h3, h4⟩ := BR.at h h1 h2
    have h4 : o + (expL T (b :: r)).length = vs.size := by rw [h4]; simp
    split at hc
    · split at hc
      · rename_i hna
        simp only [Option.some.injEq] at hc; subst hc
        have h5 := h3.1
        rw [expL, exp1_one T hna, List.singleton_append] at h5
        obtain ⟨v, h6, h7⟩ := h5.get T (j := 0) rfl
        refine ⟨v, ?_, h7, fun h => by cases h⟩
        rw [List.getElem?_drop, Nat.add_zero] at h6
        simpa using h6
      · cases hc
    · split at hc
      · rename_i t m xs ha
        have := arrI_eq ha; subst this
        split at hc
        · rename_i hn
          simp only [Option.some.injEq] at hc; subst hc
          have hn := Nat.eq_of_beq_eq_true hn
          have hlen : (exp1 T (.arr t m xs)).length = n := by rw [exp1_len T h3.2.1]; exact hn
          rw [expL, List.length_append, hlen] at h4
          refine ⟨_, rfl, ⟨_, rfl, h3.2.1, ?_⟩, fun _ => by omega⟩
          rw [extract_toList]
          have h5 := h3.1.take T n
          rw [expL, List.take_append_of_le_length (by omega), List.take_of_length_le (by omega)] at h5
          exact VRL.cells.1 h5
        · cases hc
      · split at hc
        · rename_i hb
          simp only [Bool.and_eq_true] at hb
          obtain ⟨hle, hall⟩ := hb
          simp only [Option.some.injEq] at hc; subst hc
          have hle := Nat.le_of_ble_eq_true hle
          have hsp : expL T (b :: r) = (b :: r).take n ++ expL T ((b :: r).drop n) := by
            conv => lhs; rw [← List.take_append_drop n (b :: r)]
            rw [expL_app, expL_one T hall]
          have htl : ((b :: r).take n).length = n := by rw [List.length_take, List.length_cons]; omega
          rw [hsp, List.length_append, htl] at h4
          refine ⟨_, rfl, ⟨_, rfl, ?_⟩, fun _ => by omega⟩
          rw [extract_toList]
          have h5 := h3.1.take T n
          rw [hsp, List.take_append_of_le_length (by omega), List.take_of_length_le (by omega)] at h5
          exact h5
        · cases hc
  · cases hc
theorem locB_ids {cs l : List (AV T.U)} {o : Nat} (h : locB T cs o = some l) : ∀ i ∈ idsL l, i ∈ idsL cs := by
  induction cs generalizing o with
  | nil => cases h
  | cons a r ih =>
    unfold locB at h
    split at h
    · simp only [Option.some.injEq] at h; subst h; exact fun i hi => hi
    · split at h
      · exact fun i hi => by rw [idsL]; exact List.mem_append.2 (.inr (ih h i hi))
      · cases h
theorem idsL_take {l : List (AV T.U)} {n : Nat} : ∀ i ∈ idsL (l.take n), i ∈ idsL l := by
  intro i hi
  conv at hi => skip
  rw [← List.take_append_drop n l, idsL_app]
  exact List.mem_append.2 (.inl hi)
theorem cutB_ids {cs : List (AV T.U)} {o n : Nat} {ag : Bool} {a : AV T.U} (h : cutB T cs o n ag = some a) : ∀ i ∈ a.ids, i ∈ idsL cs := by
  unfold cutB at h
  split at h
  · rename_i b r hloc
    have hi := locB_ids hloc
    split at h
    · split at h
      · simp only [Option.some.injEq] at h; subst h
        exact fun i hm => hi i (by rw [idsL]; exact List.mem_append.2 (.inl hm))
      · cases h
    · split at h
      · split at h
        · simp only [Option.some.injEq] at h; subst h; intro i hm; cases hm
        · cases h
      · split at h
        · simp only [Option.some.injEq] at h; subst h
          intro i hm
          rw [AV.ids] at hm
          exact hi i (idsL_take i hm)
        · cases h
  · cases h
theorem fieldP_spec {t : TypeId} {j : Nat} {ft : TypeId} {o n : Nat} {ag : Bool} (h : fieldP P t j = some (ft, o, n, ag)) : ∃ fs f i d, P.underlying t = some (.struct fs) ∧ fs[j]? = some f ∧ f.type = ft ∧ f.offset = o ∧ P.info? ft = some i ∧ i.size = n ∧ P.underlying ft = some d ∧ aggD d = ag := by
  unfold fieldP at h
  split at h
  · rename_i fs hfs
    split at h
    · rename_i f hf
      split at h
      · rename_i i d hi hd
        simp only [Option.some.injEq, Prod.mk.injEq] at h
        obtain ⟨rfl, rfl, rfl, rfl⟩ := h
        exact ⟨fs, f, i, d, hfs, hf, rfl, rfl, hi, rfl, hd, rfl⟩
      · cases h
    · cases h
  · cases h
theorem fieldA_run {t : TypeId} {j : Nat} {x a : AV T.U} (h : fieldA T P t j x = some a) {X : Value} (hx : VR T w S φ x X) : ∃ v, (∀ w0, (Instr.field t X j).run P w0 = .ok v w0) ∧ VR T w S φ a v := by
  unfold fieldA at h
  split at h
  · split at h
    · rename_i cs p ft o n ag hp
      obtain ⟨fs, f, i, d, h1, h2, h3, h4, h5, h6, h7, h8⟩ := fieldP_spec P hp
      subst h3; subst h4; subst h6; subst h8
      obtain ⟨vs, rfl, hvs⟩ := hx
      obtain ⟨v, hv1, hv2, _⟩ := cutA_rel hvs h
      refine ⟨v, fun w0 => ?_, hv2⟩
      have hu : (underlying t).run P w0 = .ok (.struct fs) w0 := by simp [underlying, h1]
      have hpart : (part f.type vs f.offset).run P w0 = .ok v w0 := by
        apply partV_run
        unfold partV
        rw [h7]
        simp only [h5]
        cases hag : aggD d <;> rw [hag] at hv1 <;> simpa using hv1
      unfold Instr.field
      rw [Sem.run_bind, hu]
      simp [h2, asAgg, hpart]
    · cases h
  · cases h
theorem flatAV_cells {a : AV T.U} (h : flatAV T a = true) {v : Value} (hv : VR T w S φ a v) : v.cells = #[v] ∧ v.oneCell' = true := by
  cases a with
  | cell c => have hv : CR T w S c.t c.x v := hv; generalize c.x = x at hv; generalize c.t = t at *; cases hv <;> exact ⟨rfl, rfl⟩
  | ptr i o => obtain ⟨g, _, rfl⟩ := hv; exact ⟨rfl, rfl⟩
  | own i => rw [VR] at hv; subst hv; exact ⟨rfl, rfl⟩
  | sl i sz o n => obtain ⟨ad, rfl, _⟩ := hv; exact ⟨rfl, rfl⟩
  | fn f x y => obtain ⟨va, vb, rfl, _⟩ := hv; exact ⟨rfl, rfl⟩
  | ifc t x => obtain ⟨u, rfl, _⟩ := hv; exact ⟨rfl, rfl⟩
  | raw u => rw [VR] at hv; subst hv; cases v <;> first | exact ⟨rfl, rfl⟩ | cases h
  | aptr i o sz n k c => obtain ⟨g, _, _, rfl⟩ := hv; exact ⟨rfl, rfl⟩
  | asl i o sz n lo m => obtain ⟨g, ad, _, rfl, _⟩ := hv; exact ⟨rfl, rfl⟩
  | mp i => obtain ⟨g, _, rfl⟩ := hv; exact ⟨rfl, rfl⟩
  | _ => cases h
theorem cellsOk_cases {a : AV T.U} (h : cellsOk T a = true) : (∃ cs, a = .agg cs) ∨ (flatAV T a = true ∧ cellsA T a = [a]) := by
  cases a <;> first | exact .inl ⟨_, rfl⟩ | exact .inr ⟨h, rfl⟩
theorem cellsA_rel {a : AV T.U} (h : cellsOk T a = true) {v : Value} (hv : VR T w S φ a v) : VRL T w S φ (cellsA T a) v.cells.toList := by
  rcases cellsOk_cases h with ⟨cs, rfl⟩ | ⟨h1, h2⟩
  · obtain ⟨vs, rfl, h2⟩ := hv; exact h2
  · rw [h2, (flatAV_cells h1 hv).1]; exact ⟨hv, trivial⟩
theorem puts_toList : ∀ (l : List Value) (o : Nat) (c : Array Value) (cs as : List (AV T.U)), VRL T w S φ cs c.toList → VRL T w S φ as l → VRL T w S φ (putsA T cs o as) (puts c o l).toList
  | [], _, _, _, [], h, _ => h
  | [], _, _, _, _ :: _, _, h => h.elim
  | _ :: _, _, _, _, [], _, h => h.elim
  | v :: r, o, c, cs, a :: s, h, h' => by
    rw [putsA, puts]
    exact puts_toList r (o + 1) _ _ s (by rw [Array.toList_setIfInBounds]; exact h.set T o h'.1) h'.2
theorem foldl_puts (o : Nat) : ∀ (l : List Value) (j : Nat) (c : Array Value), (l.zipIdx j).foldl (fun cs (p : Value × Nat) => cs.setIfInBounds (o + p.2) p.1) c = puts c (o + j) l
  | [], _, _ => rfl
  | v :: r, j, c => by
    rw [List.zipIdx_cons, List.foldl_cons, foldl_puts o r (j + 1)]
    rfl
theorem puts_size : ∀ (l : List Value) (o : Nat) (c : Array Value), (puts c o l).size = c.size
  | [], _, _ => rfl
  | v :: r, o, c => by rw [puts, puts_size r]; simp
theorem fillA_run {place : Nat → Option (Nat × Nat)} : ∀ {ps : List (Nat × AV T.U)} {pv : List (Nat × Value)} {cs : List (AV T.U)} {c : Array Value} {cs' : List (AV T.U)},
    VRL T w S φ cs c.toList → ps.map Prod.fst = pv.map Prod.fst → VRL T w S φ (ps.map Prod.snd) (pv.map Prod.snd) → fillA T place cs ps = some cs' →
    ∃ c', Instr.fill place c pv = some c' ∧ VRL T w S φ cs' c'.toList
  | [], [], cs, c, cs', h, _, _, hf => by simp only [fillA, Option.some.injEq] at hf; subst hf; exact ⟨c, rfl, h⟩
  | [], _ :: _, _, _, _, _, he, _, _ => by simp at he
  | _ :: _, [], _, _, _, _, he, _, _ => by simp at he
  | (i, a) :: r, (j, v) :: s, cs, c, cs', h, he, hr, hf => by
    simp only [List.map_cons, List.cons.injEq] at he hr
    obtain ⟨rfl, he⟩ := he
    unfold fillA at hf
    split at hf
    · rename_i o n hpl
      split at hf
      · rename_i hok
        simp only [Bool.and_eq_true] at hok
        obtain ⟨h1, h2, h3⟩ := hok
        have hc := cellsA_rel h1 hr.1
        have l1 := hc.len T; have l2 := h.len T
        have e2 := Nat.eq_of_beq_eq_true h2; have e3 := Nat.le_of_ble_eq_true h3
        obtain ⟨c', g1, g2⟩ := fillA_run (puts_toList v.cells.toList o c cs _ h hc) he hr.2 hf
        refine ⟨c', ?_, g2⟩
        simp at l1 l2
        unfold Instr.fill
        rw [hpl]
        simp only
        rw [if_neg (by simp; omega)]
        have hfold : v.cells.zipIdx.foldl (fun cs (p : Value × Nat) => cs.setIfInBounds (o + p.2) p.1) c = puts c o v.cells.toList := by
          rw [← Array.foldl_toList, Array.toList_zipIdx, foldl_puts]; rfl
        exact (congrArg (fun z => Instr.fill place z s) hfold).trans g1
      · cases hf
    · cases hf
theorem mapO_run {α β : Type} {f : α → Option β} {g : α → Sem β} {w0 : World} (hfg : ∀ x y, f x = some y → (g x).run P w0 = .ok y w0) : ∀ {l : List α} {r : List β}, mapO f l = some r → (l.mapM g).run P w0 = .ok r w0
  | [], r, h => by simp only [mapO, Option.some.injEq] at h; subst h; rfl
  | x :: l, r, h => by
    unfold mapO at h
    split at h
    · rename_i y s hy hs
      simp only [Option.some.injEq] at h; subst h
      simp only [List.mapM_cons, Sem.run_bind, hfg x y hy, mapO_run hfg hs, Result.andThen_ok, Sem.run_pure]
    · cases h
theorem placesP_spec {t : TypeId} {pl : List (Nat × Nat)} (h : placesP P t = some pl) : ∃ fs, P.underlying t = some (.struct fs) ∧ ∀ w0, (fs.mapM fun f => (do pure (f.offset, ← sizeOf f.type) : Sem (Nat × Nat))).run P w0 = .ok pl.toArray w0 := by
  unfold placesP at h
  split at h
  · rename_i fs hfs
    refine ⟨fs, hfs, fun w0 => ?_⟩
    rw [Array.mapM_eq_mapM_toList]
    have := mapO_run P (w0 := w0) (g := fun f => (do pure (f.offset, ← sizeOf f.type) : Sem (Nat × Nat))) (fun f y hy => by
      unfold placeP at hy
      split at hy
      · rename_i i hi
        simp only [Option.some.injEq] at hy; subst hy
        have hs : (sizeOf f.type).run P w0 = .ok i.size w0 := by simp [sizeOf, typeInfo, hi]
        simp only [Sem.run_bind, hs, Result.andThen_ok, Sem.run_pure]
      · cases hy) h
    simp only [Sem.run_map, this, Result.andThen_ok]
  · cases h
theorem partsA_rel {F : AF T} {F' : PF} (hF : FR T w S φ F F') : ∀ {l : List (Nat × Operand)} {as : List (Nat × AV T.U)}, partsA T F l = some as →
    as.map Prod.fst = (l.map fun p => (p.1, evD F' p.2)).map Prod.fst ∧ VRL T w S φ (as.map Prod.snd) ((l.map fun p => (p.1, evD F' p.2)).map Prod.snd)
  | [], as, h => by simp only [partsA, Option.some.injEq] at h; subst h; exact ⟨rfl, trivial⟩
  | (i, x) :: r, as, h => by
    unfold partsA at h
    split at h
    · rename_i a l ha hl
      simp only [Option.some.injEq] at h; subst h
      obtain ⟨v, h1, h2⟩ := aev_rel hF ha
      obtain ⟨e1, e2⟩ := partsA_rel hF hl
      exact ⟨by simpa using e1, by simpa [evD, h1] using h2, e2⟩
    · cases h
theorem moveP_rel {a b : AV T.U} {f : Nat} (h : moveP T a f = some b) {v : Value} (hv : VR T w S φ a v) : ∃ ad : Addr, v = .pointer (some ad) ∧ ad.spot = none ∧ VR T w S φ b (.pointer (some ⟨ad.block, ad.off + f, none⟩)) := by
  unfold moveP at h
  split at h <;> simp only [Option.some.injEq, reduceCtorEq] at h <;> subst h
  · obtain ⟨g, h1, rfl⟩ := hv; exact ⟨_, rfl, rfl, g, h1, rfl⟩
  · obtain ⟨g, h1, rfl⟩ := hv; exact ⟨_, rfl, rfl, g, h1, by simp [Nat.add_assoc]⟩
  · obtain ⟨ad, cap, h1, h2, rfl⟩ := hv; exact ⟨_, rfl, rfl, ad, cap, h1, h2, by simp [Nat.add_assoc]⟩
  · obtain ⟨g, h1, h2, rfl⟩ := hv; exact ⟨_, rfl, rfl, g, h1, h2, by simp [Nat.add_assoc]⟩
theorem pureA_run {o : Op} {F : AF T} {a : AV T.U} (h : pureA T P o F = some a) {F' : PF} (hF : FR T w S φ F F') (op : Oper) (hop : op.op = o) : ∃ v, (∀ w0, (execOp (evD F') op).run P w0 = .ok (.value v) w0) ∧ VR T w S φ a v := by
  unfold pureA at h
  split at h
  · obtain ⟨v, h1, h2⟩ := aev_rel hF h
    exact ⟨v, fun w0 => by simp [execOp, hop, evD_of h1], h2⟩
  · obtain ⟨v, h1, h2⟩ := aev_rel hF h
    exact ⟨v, fun w0 => by simp [execOp, hop, evD_of h1], h2⟩
  · split at h
    · rename_i x y _ hx hy
      obtain ⟨X, h1, h2⟩ := aev_rel hF hx
      obtain ⟨Y, h3, h4⟩ := aev_rel hF hy
      rename_i b t xo yo _ _ _
      obtain ⟨g1, v, g2, g3⟩ := binA_run P h h2 h4 xo yo fun h => (Bool.or_eq_true _ _).mp h
      exact ⟨v, fun w0 => by simp [execOp, hop, evD_of h1, evD_of h3, g1, g2], g3⟩
    · cases h
  · split at h
    · rename_i x hx
      obtain ⟨X, h1, h2⟩ := aev_rel hF hx
      obtain ⟨v, g2, g3⟩ := unA_run P h h2
      exact ⟨v, fun w0 => by simp [execOp, hop, evD_of h1, g2], g3⟩
    · cases h
  · split at h
    · rename_i k d hx hk hs
      simp only [Option.some.injEq] at h; subst h
      obtain ⟨X, h1, h2⟩ := aev_rel hF hx
      have e := cint_rel h2; subst e
      refine ⟨_, fun w0 => ?_, CR.int _ _⟩
      rename_i src dst xop _ _ _ k' x
      unfold isIntK at hk
      split at hk
      · rename_i k2 hd
        simp only [Option.some.injEq] at hk; subst hk
        have hd' : (underlying dst).run P w0 = .ok (.int k2) w0 := by simp [underlying, hd]
        have hs' : (underlying src).run P w0 = .ok d w0 := by simp [underlying, hs]
        simp only [execOp, hop, evD_of h1, convert, Sem.run_bind, hs', hd', Result.andThen_ok, Conv.intToInt]
        rfl
      · cases hk
    · cases h
  · split at h
    · rename_i vs hx
      obtain ⟨X, h1, h2⟩ := aev_rel hF hx
      obtain ⟨us, rfl, h3⟩ := h2
      obtain ⟨v, h4, h5⟩ := h3.get T h
      refine ⟨v, fun w0 => ?_, h5⟩
      simp at h4
      simp [execOp, hop, evD_of h1, Instr.extract, h4]
    · cases h
  · split at h
    · rename_i x hx
      obtain ⟨X, h1, h2⟩ := aev_rel hF hx
      obtain ⟨v, g2, g3⟩ := fieldA_run P h h2
      exact ⟨v, fun w0 => by simp [execOp, hop, evD_of h1, g2], g3⟩
    · cases h
  · split at h
    · rename_i x d hx hd
      obtain ⟨X, h1, h2⟩ := aev_rel hF hx
      split at h
      · cases h
      · simp only [Option.some.injEq] at h; subst h
        refine ⟨_, fun w0 => ?_, X, rfl, h2⟩
        have hu : ∀ t, P.underlying t = some d → (underlying t).run P w0 = .ok d w0 := fun t ht => by simp [underlying, ht]
        simp only [execOp, hop, evD_of h1, Instr.makeInterface, Sem.run_bind, hu _ hd, Result.andThen_ok]
        rfl
    · cases h
  · split at h
    · rename_i x y hx hy
      simp only [Option.some.injEq] at h; subst h
      rename_i f xs ys _ _
      refine ⟨.func f (xs.map (evD F')) (ys.map (evD F')), fun w0 => by simp [execOp, hop, Instr.makeFunc], _, _, rfl, ?_, ?_⟩
      · simpa using aevL_rel hF hx
      · simpa using aevL_rel hF hy
    · cases h
  · split at h
    · rename_i pf z l hpl hz hl
      split at h
      · rename_i cs hcs
        simp only [Option.some.injEq] at h; subst h
        rename_i t ps _ _ _ _
        unfold zeroA at hz
        split at hz
        · rename_i c hc
          simp only [Option.some.injEq] at hz; subst hz
          obtain ⟨i, zv, hi, hzv, rfl⟩ := zeroOf_spec hc
          obtain ⟨e1, e2⟩ := partsA_rel hF hl
          obtain ⟨c', g1, g2⟩ := fillA_run (ofV1_relL T zv.cells.toList) e1 e2 hcs
          refine ⟨.agg c', fun w0 => ?_, c', rfl, g2⟩
          have hzr : (zeroValue t).run P w0 = .ok zv w0 := by simp [zeroValue, typeInfo, hi, hzv]
          have hparts : (ps.map fun p => (p.1, evD F' p.2)).toList = ps.toList.map fun p => (p.1, evD F' p.2) := by simp
          unfold placeF at hpl
          split at hpl
          · split at hpl
            · rename_i pl hpl'
              simp only [Option.some.injEq] at hpl; subst hpl
              obtain ⟨fs, hfs, hpr⟩ := placesP_spec P hpl'
              have hu : (underlying t).run P w0 = .ok (.struct fs) w0 := by simp [underlying, hfs]
              simp only [execOp, hop, Instr.build, Sem.run_bind, hzr, hu, Result.andThen_ok, hpr]
              have hg : Instr.fill (fun x => pl.toArray[x]?) zv.cells (Array.map (fun x => (x.fst, evD F' x.snd)) ps).toList = some c' := by rw [hparts]; simpa using g1
              rw [hg]; rfl
            · cases hpl
          · rename_i m e hme
            split at hpl
            · rename_i j hj
              simp only [Option.some.injEq] at hpl; subst hpl
              have hu : (underlying t).run P w0 = .ok (.array m e) w0 := by simp [underlying, hme]
              have hs : (sizeOf e).run P w0 = .ok j.size w0 := by simp [sizeOf, typeInfo, hj]
              simp only [execOp, hop, Instr.build, Sem.run_bind, hzr, hu, Result.andThen_ok, hs]
              have hg : Instr.fill (fun x => some (x * j.size, j.size)) zv.cells (Array.map (fun x => (x.fst, evD F' x.snd)) ps).toList = some c' := by rw [hparts]; simpa using g1
              rw [hg]; rfl
            · cases hpl
          · cases hpl
        · cases hz
      · cases h
    · cases h
  · split at h
    · rename_i x ft f n ag hx hp
      split at h
      · cases h
      · rename_i hn
        obtain ⟨X, h1, h2⟩ := aev_rel hF hx
        obtain ⟨fs, fl, i, d, g1, g2, rfl, rfl, g5, rfl, g7, g8⟩ := fieldP_spec P hp
        obtain ⟨ad, rfl, hsp, h3⟩ := moveP_rel h h2
        rename_i s xo j _ _ _
        refine ⟨_, fun w0 => ?_, h3⟩
        have hu : (underlying s).run P w0 = .ok (.struct fs) w0 := by simp [underlying, g1]
        have hs : (sizeOf fl.type).run P w0 = .ok i.size w0 := by simp [sizeOf, typeInfo, g5]
        have hn0 : ¬ i.size = 0 := by intro e; rw [e] at hn; cases hn
        have hfp : (fieldPlace ad fl).run P w0 = .ok ⟨ad.block, ad.off + fl.offset, none⟩ w0 := by
          unfold fieldPlace
          simp only [Sem.run_bind, hs, Result.andThen_ok, hn0, if_false, Sem.run_pure]
          unfold Addr.add
          cases ad; simp at hsp; subst hsp
          split <;> simp_all
        simp only [execOp, hop, evD_of h1, Instr.fieldAt, Instr.sureAddr, Sem.run_bind, hu, Result.andThen_ok, g2, hfp, Sem.run_pure]
    · cases h
  · cases h
end
end Go.X
