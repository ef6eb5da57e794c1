/- Rules by which a function's code is walked with a frame that is known in part; nothing here is about one program. -/
import Derived.Orders
import Derived.Deep.Quiet
import Derived.KernelRfl
import Derived.Below
import Derived.WalkKit
namespace Go.V
open Go.RowKit

/-! ### What a test says -/
theorem bNotT {b : Bool} (h : (!b) = true) : b = false := by cases b <;> simp_all
theorem bNotF {b : Bool} (h : (!b) = false) : b = true := by cases b <;> simp_all
theorem bAndT {a b : Bool} (h : (a && b) = true) : a = true ∧ b = true := by cases a <;> cases b <;> simp_all
theorem bAndF {a b : Bool} (h : (a && b) = false) : a = false ∨ b = false := by cases a <;> cases b <;> simp_all
theorem bOrT {a b : Bool} (h : (a || b) = true) : a = true ∨ b = true := by cases a <;> cases b <;> simp_all
theorem bOrF {a b : Bool} (h : (a || b) = false) : a = false ∧ b = false := by cases a <;> cases b <;> simp_all
theorem orMap {a b c d : Prop} (h : a ∨ b) (f : a → c) (g : b → d) : c ∨ d := by rcases h with h | h; exact .inl (f h); exact .inr (g h)
theorem bEqT {α : Type} [BEq α] [LawfulBEq α] {a b : α} (h : (a == b) = true) : a = b := eq_of_beq h
theorem bEqF {α : Type} [BEq α] [LawfulBEq α] {a b : α} (h : (a == b) = false) : a ≠ b := by simpa using h
theorem bNeT {α : Type} [BEq α] [LawfulBEq α] {a b : α} (h : (a != b) = true) : a ≠ b := by simpa using h
theorem bNeF {α : Type} [BEq α] [LawfulBEq α] {a b : α} (h : (a != b) = false) : a = b := by simpa using h

/-- A frame known in part: what is known of the slots. -/
abbrev PF := List (Nat × Value)
def PF.get : PF → Nat → Option Value
  | [], _ => none
  | (j, v) :: r, i => match Nat.beq j i with | true => some v | false => PF.get r i
def PF.keep (F : PF) : List Nat → PF
  | [] => []
  | i :: r => match F.get i with | some v => (i, v) :: F.keep r | none => F.keep r
def upd (F : PF) (dst : Option Tmp) (v : Value) : PF := match dst with | some d => (d, v) :: F | none => F
def ev (F : PF) : Operand → Option Value
  | .tmp t => F.get t
  | .const v => some v
  | .global g => some (.pointer (some ⟨g, 0, none⟩))
  | .func f => some (.func (.func f) #[] #[])
def evD (F : PF) (x : Operand) : Value := (ev F x).getD undef

structure Fr (n : Nat) (ds : List Deferred) (F : PF) (a : Act) : Prop where
  size : a.tmps.size = n
  defers : a.defers = ds
  val : ∀ i v, F.get i = some v → a.tmps.getD i undef = v ∧ i < n

theorem PF.get_keep (F : PF) (i : Nat) (v : Value) : ∀ l : List Nat, (F.keep l).get i = some v → F.get i = some v
  | [], h => by simp [PF.keep, PF.get] at h
  | j :: r, h => by
    unfold PF.keep at h
    split at h
    · rename_i u hu
      simp only [PF.get] at h
      split at h
      · rename_i hb
        have := Nat.eq_of_beq_eq_true hb
        subst this
        rw [hu]; exact h
      · exact PF.get_keep F i v r h
    · exact PF.get_keep F i v r h

theorem Fr.keep {n : Nat} {ds : List Deferred} {F F' : PF} {a : Act} (h : Fr n ds F a) (l : List Nat) (hk : F.keep l = F') : Fr n ds F' a :=
  ⟨h.size, h.defers, fun i v hv => h.val i v (PF.get_keep F i v l (by rw [hk]; exact hv))⟩

theorem Fr.eval {n : Nat} {ds : List Deferred} {F : PF} {a : Act} (h : Fr n ds F a) {x : Operand} {v : Value} (hx : ev F x = some v) : a.eval x = v := by
  cases x with
  | tmp t => exact (h.val t v hx).1
  | const u => simpa [ev, Act.eval] using hx
  | global g => simpa [ev, Act.eval] using hx
  | func f => simpa [ev, Act.eval] using hx

def okDst (n : Nat) : Option Tmp → Bool | some d => Nat.blt d n | none => true

theorem Fr.upd {n : Nat} {ds : List Deferred} {F : PF} {a : Act} (h : Fr n ds F a) {dst : Option Tmp} (hd : okDst n dst = true) (v : Value) : Fr n ds (upd F dst v) (a.put dst v) := by
  cases dst with
  | none => exact h
  | some d =>
    have hdn : d < n := by simpa [okDst, Nat.blt_eq] using hd
    refine ⟨by simp [Act.put, h.size], by simp [Act.put, h.defers], ?_⟩
    intro i u hu
    simp only [Go.V.upd, PF.get] at hu
    split at hu
    · rename_i hb
      have := Nat.eq_of_beq_eq_true hb
      subst this
      simp only [Option.some.injEq] at hu
      subst hu
      refine ⟨?_, hdn⟩
      simp only [Act.put]
      rw [Array.getD_eq_getD_getElem?, Array.getElem?_setIfInBounds_self_of_lt (by rw [h.size]; exact hdn)]
      rfl
    · rename_i hb
      have hne : d ≠ i := fun e => by subst e; simp at hb
      have := h.val i u hu
      refine ⟨?_, this.2⟩
      simp only [Act.put]
      rw [Array.getD_eq_getD_getElem?, Array.getElem?_setIfInBounds_ne hne, ← Array.getD_eq_getD_getElem?]
      exact this.1

/-- The value that a guard looks at: none: it isn't known; some none: it is no truth. -/
def guardVal (ops : Array Oper) (F : PF) (j : Nat) : Option (Option Bool) :=
  match (ops[j]?).bind (·.dst) with
  | some d => match F.get d with | some (.bool b) => some (some b) | some (.tuple _) => some none | _ => none
  | none => none

theorem guardVal_spec {ops : Array Oper} {F : PF} {j : Nat} {b : Option Bool} {n : Nat} {ds : List Deferred} {a : Act} (h : Fr n ds F a) (hg : guardVal ops F j = some b) : yielded ops a.tmps j = b := by
  unfold guardVal at hg
  unfold yielded
  split at hg
  · rename_i d hd
    rw [hd]
    have key : ∀ v, F.get d = some v → a.tmps[d]? = some v := by
      intro v hv
      have := h.val d _ hv
      have hlt : d < a.tmps.size := by rw [h.size]; exact this.2
      have e := this.1
      rw [Array.getD_eq_getD_getElem?, Array.getElem?_eq_getElem hlt] at e
      rw [Array.getElem?_eq_getElem hlt]
      simpa using e
    split at hg
    · rename_i c hc
      simp only [Option.bind_some, key _ hc]
      simpa using hg
    · rename_i c hc
      simp only [Option.bind_some, key _ hc]
      simpa using hg
    · cases hg
  · cases hg

def notSelect (o : Oper) : Bool := match o.op with | .select .. => false | _ => true
def present (F : PF) (o : Oper) : Bool := o.op.operands.toList.all fun x => (ev F x).isSome

/-- Is the operation wanted? None: it can't be told. -/
def wants (ops : Array Oper) (F : PF) (o : Oper) : Option Bool :=
  match o.guard with
  | none => some true
  | some (j, b) => (guardVal ops F j).map fun c => match c, b with | some true, true => true | some false, false => true | _, _ => false

theorem wants_spec {ops : Array Oper} {F : PF} {o : Oper} {b : Bool} {n : Nat} {ds : List Deferred} {a : Act} (h : Fr n ds F a) (hg : wants ops F o = some b) : Region.wanted o (yielded ops a.tmps) = b := by
  unfold wants at hg
  unfold Region.wanted
  split at hg
  · rename_i hn
    rw [hn]; simpa using hg
  · rename_i j c hn
    rw [hn]
    cases hv : guardVal ops F j with
    | none => rw [hv] at hg; cases hg
    | some d =>
      rw [hv] at hg
      simp only [Option.map_some, Option.some.injEq] at hg
      simp only [guardVal_spec h hv]
      subst hg
      rcases d with _ | d
      · cases c <;> rfl
      · cases d <;> cases c <;> rfl

/-- The operation at k, if it is wanted and all that it takes is known. -/
def dec (ops : Array Oper) (k n : Nat) (F : PF) : Option Oper :=
  match ops[k]? with
  | none => none
  | some o =>
    match wants ops F o with
    | some true => match (okDst n o.dst && (notSelect o && present F o)) with | true => some o | false => none
    | _ => none

theorem dec_spec {ops : Array Oper} {k n : Nat} {F : PF} {o : Oper} (h : dec ops k n F = some o) :
    ops[k]? = some o ∧ okDst n o.dst = true ∧ (∀ cs b, o.op ≠ .select cs b) ∧ (∀ x ∈ o.op.operands, (ev F x).isSome = true) ∧
    ∀ {ds : List Deferred} {a : Act}, Fr n ds F a → Region.wanted o (yielded ops a.tmps) = true := by
  unfold dec at h
  split at h
  · cases h
  · rename_i o' ho
    split at h
    · rename_i hw
      split at h
      · rename_i hb
        simp only [Option.some.injEq] at h
        subst h
        simp only [Bool.and_eq_true] at hb
        refine ⟨ho, hb.1, ?_, ?_, fun hfr => wants_spec hfr hw⟩
        · intro cs b e
          have := hb.2.1
          simp [notSelect, e] at this
        · intro x hx
          have := hb.2.2
          unfold present at this
          rw [List.all_eq_true] at this
          exact this x (Array.mem_toList_iff.2 hx)
      · cases h
    · cases h

theorem exec_eq {n : Nat} {ds : List Deferred} {F : PF} {a : Act} {o : Oper} (h : Fr n ds F a) (hs : ∀ cs b, o.op ≠ .select cs b) (hp : ∀ x ∈ o.op.operands, (ev F x).isSome = true) :
    execOp a.eval o = execOp (evD F) o :=
  execOp_congr o hs fun x hx => by
    obtain ⟨v, hv⟩ := Option.isSome_iff_exists.1 (hp x hx)
    rw [h.eval hv]; simp [evD, hv]

/-- One operation that yields a value, or none, in the world as it is reckoned. -/
def step1 (P : Program) (ops : Array Oper) (k n : Nat) (F : PF) (w : World) : Option (PF × World) :=
  match ops[k]? with
  | none => none
  | some o =>
    match wants ops F o with
    | some true =>
      match (okDst n o.dst && (notSelect o && present F o)) with
      | true =>
        match (execOp (evD F) o).run P w with
        | .ok (.value v) w' => some (upd F o.dst v, w')
        | .ok .skip w' => some (upd F o.dst undef, w')
        | _ => none
      | false => none
    | some false => match okDst n o.dst with | true => some (upd F o.dst undef, w) | false => none
    | none => none
/-- m operations from k on. -/
def evK (P : Program) (ops : Array Oper) (n : Nat) : Nat → Nat → PF → World → Option (PF × World)
  | 0, _, F, w => some (F, w)
  | m + 1, k, F, w => match step1 P ops k n F w with | some (F', w') => evK P ops n m (k + 1) F' w' | none => none

/-- A region from operation k on, in every frame that fits. -/
def WR (P : Program) (ops : Array Oper) (Q : Exit → Act → World → Prop) (k n : Nat) (ds : List Deferred) (F : PF) (w : World) : Prop :=
  ∀ a, Fr n ds F a → wpList P ops Q (ops.toList.drop k) a w
/-- Code, in every frame that fits. -/
def CW (P : Program) (c : Code) (Q : Exit → Act → World → Prop) (n : Nat) (ds : List Deferred) (F : PF) (w : World) : Prop :=
  ∀ a, Fr n ds F a → c.wp P Q a w

section
variable {P : Program} {ops : Array Oper} {Q : Exit → Act → World → Prop} {k n : Nat} {ds : List Deferred} {F F' : PF} {w w' : World}

theorem drop_of_get {o : Oper} (h : ops[k]? = some o) : ops.toList.drop k = o :: ops.toList.drop (k + 1) := by
  have hlt : k < ops.toList.length := by
    have := (Array.getElem?_eq_some_iff.1 h).1; simpa using this
  rw [List.drop_eq_getElem_cons hlt]
  congr 1
  have := (Array.getElem?_eq_some_iff.1 h).2
  simpa using this

theorem WR.step {o : Oper} (hd : dec ops k n F = some o)
    (h : ∀ a, Fr n ds F a → execOp a.eval o = execOp (evD F) o → o.wp P a w (wpList P ops Q (ops.toList.drop (k + 1))) Q) : WR P ops Q k n ds F w := by
  intro a ha
  obtain ⟨ho, _, hs, hp, hw⟩ := dec_spec hd
  rw [drop_of_get ho]
  unfold wpList
  rw [if_pos (hw ha)]
  exact .inl (h a ha (exec_eq ha hs hp))

theorem WR.val {o : Oper} {v : Value} (hd : dec ops k n F = some o) (hr : (execOp (evD F) o).run P w = .ok (.value v) w')
    (K : WR P ops Q (k + 1) n ds (upd F o.dst v) w') : WR P ops Q k n ds F w :=
  .step hd fun a ha he => by
    unfold Oper.wp; rw [he, hr]
    exact K _ (ha.upd (dec_spec hd).2.1 v)

theorem WR.skip {o : Oper} (hd : dec ops k n F = some o) (hr : (execOp (evD F) o).run P w = .ok .skip w')
    (K : WR P ops Q (k + 1) n ds (upd F o.dst undef) w') : WR P ops Q k n ds F w :=
  .step hd fun a ha he => by
    unfold Oper.wp; rw [he, hr]
    exact K _ (ha.upd (dec_spec hd).2.1 undef)

theorem WR.enter {o : Oper} {f : FuncId} {args : Array Value} {R : Ending → World → Prop} (hd : dec ops k n F = some o) (hr : (execOp (evD F) o).run P w = .ok (.enter f args) w')
    (hc : Calls P f args w' R) (K : ∀ v w'', R (.returned v) w'' → WR P ops Q (k + 1) n ds (upd F o.dst v) w'')
    (hp : ∀ ch w'', R (.panicked ch) w'' → ∀ a, Fr n ds F a → Q (.panic ch) a w'') (ho : ∀ w'', R .outgrown w'' → LetsOut Q) : WR P ops Q k n ds F w :=
  .step hd fun a ha he => by
    unfold Oper.wp; rw [he, hr]
    refine hc.mono fun e w'' hR => ?_
    cases e with
    | returned v => exact K v w'' hR _ (ha.upd (dec_spec hd).2.1 v)
    | panicked ch => exact hp ch w'' hR a ha
    | outgrown => exact ho w'' hR

theorem WR.throw {o : Oper} {v : Value} (hd : dec ops k n F = some o) (hr : (execOp (evD F) o).run P w = .halt (.panic v) w')
    (K : ∀ a, Fr n ds F a → Q (.panic [{ v, recovered := false }]) a w') : WR P ops Q k n ds F w :=
  .step hd fun a ha he => by
    unfold Oper.wp; rw [he, hr]
    exact K a ha

theorem step1_spec (h : step1 P ops k n F w = some (F', w')) (K : WR P ops Q (k + 1) n ds F' w') : WR P ops Q k n ds F w := by
  unfold step1 at h
  split at h
  · cases h
  · rename_i o ho
    split at h
    · rename_i hw
      split at h
      · rename_i hb
        have hd : dec ops k n F = some o := by unfold dec; simp only [ho, hw, hb]
        split at h
        · rename_i v w₁ hr
          simp only [Option.some.injEq, Prod.mk.injEq] at h
          obtain ⟨rfl, rfl⟩ := h
          exact .val hd hr K
        · rename_i w₁ hr
          simp only [Option.some.injEq, Prod.mk.injEq] at h
          obtain ⟨rfl, rfl⟩ := h
          exact .skip hd hr K
        · cases h
      · cases h
    · rename_i hw
      split at h
      · rename_i hb
        simp only [Option.some.injEq, Prod.mk.injEq] at h
        obtain ⟨rfl, rfl⟩ := h
        intro a ha
        rw [drop_of_get ho]
        unfold wpList
        rw [if_neg (by rw [wants_spec ha hw]; simp)]
        exact K _ (ha.upd hb undef)
      · cases h
    · cases h

theorem WR.evs : ∀ (m k : Nat) (F : PF) (w : World), evK P ops n m k F w = some (F', w') → WR P ops Q (k + m) n ds F' w' → WR P ops Q k n ds F w
  | 0, _, _, _, h, K => by
    simp only [evK, Option.some.injEq, Prod.mk.injEq] at h
    obtain ⟨rfl, rfl⟩ := h
    exact K
  | m + 1, k, F, w, h, K => by
    unfold evK at h
    split at h
    · rename_i F₁ w₁ h1
      exact step1_spec h1 (WR.evs m (k + 1) F₁ w₁ h (by rw [Nat.add_assoc, Nat.add_comm 1 m]; exact K))
    · cases h

theorem WR.keep (l : List Nat) (h : F.keep l = F') (K : WR P ops Q k n ds F' w) : WR P ops Q k n ds F w := fun a ha => K a (ha.keep l h)

/-- m operations whose values are reckoned; of the frame behind them the slots that F' names are kept. -/
theorem WR.batch (m : Nat) (F' : PF) (h : (match evK P ops n m k F w with | some (G, w₁) => some (G.keep (F'.map Prod.fst), w₁) | none => none) = some (F', w)) (K : WR P ops Q (k + m) n ds F' w) : WR P ops Q k n ds F w := by
  split at h
  · rename_i G w₁ hG
    simp only [Option.some.injEq, Prod.mk.injEq] at h
    obtain ⟨h1, rfl⟩ := h
    exact .evs m k F _ hG (.keep _ h1 K)
  · cases h

theorem WR.fin (hk : Nat.ble ops.size k = true) (K : ∀ a, Fr n ds F a → Q .normal a w) : WR P ops Q k n ds F w := fun a ha => by
  rw [List.drop_eq_nil_of_le (by simpa using Nat.le_of_ble_eq_true hk)]
  exact K a ha

theorem CW.region {id : Nat} (h : WR P ops Q 0 n ds F w) : CW P (.region id ops false) Q n ds F w := fun a ha => wp_region_list (by simpa using h a ha)

theorem CW.seq {x y : Code} (h : ∀ K : Act → World → Prop, (∀ a w, y.wp P Q a w → K a w) → CW P x (Exit.then K Q) n ds F w) : CW P (.seq x y) Q n ds F w :=
  fun a ha => wp_seq_k fun K hK => h K hK a ha

/-- what stands behind a semicolon. -/
theorem go {y : Code} {K : Act → World → Prop} (hK : ∀ a w, y.wp P Q a w → K a w) (h : CW P y Q n ds F w) : ∀ a, Fr n ds F a → K a w := fun a ha => hK a w (h a ha)

/-- A cut: what holds behind the first part, whichever way was gone. -/
theorem CW.cut {x y : Code} (R : PF → World → Prop) (h : CW P x (Exit.then (fun a w' => ∃ F', Fr n ds F' a ∧ R F' w') Q) n ds F w) (K : ∀ F' w', R F' w' → CW P y Q n ds F' w') : CW P (.seq x y) Q n ds F w :=
  fun a ha => wp_seq (wp_mono (h a ha) fun e a' w' hq => by
    cases e <;> first | exact hq | (obtain ⟨F', hF, hR⟩ := hq; exact K F' w' hR a' hF))

/-- Ways that meet again, ahead of what stands behind the semicolon. -/
theorem CW.join {x y : Code} {K : Act → World → Prop} (hK : ∀ a w, y.wp P Q a w → K a w) (R : PF → World → Prop) (h : CW P x (Exit.then (fun a w' => ∃ F', Fr n ds F' a ∧ R F' w') Q) n ds F w) (J : ∀ F' w', R F' w' → CW P y Q n ds F' w') : CW P x (Exit.then K Q) n ds F w :=
  fun a ha => wp_mono (h a ha) fun e a' w' hq => by
    cases e <;> first | exact hq | (obtain ⟨F', hF, hR⟩ := hq; exact hK _ _ (J F' w' hR a' hF))
theorem CW.keep {c : Code} (l : List Nat) (h : F.keep l = F') (K : CW P c Q n ds F' w) : CW P c Q n ds F w := fun a ha => K a (ha.keep l h)
theorem CW.eqF {c : Code} (h : F = F') (K : CW P c Q n ds F' w) : CW P c Q n ds F w := h ▸ K
theorem CW.skip (K : ∀ a, Fr n ds F a → Q .normal a w) : CW P .skip Q n ds F w := fun a ha => wp_skip (K a ha)
theorem CW.ret (K : ∀ a, Fr n ds F a → Q .ret a w) : CW P .ret Q n ds F w := fun a ha => wp_ret (K a ha)
theorem CW.exit {id : Nat} (K : ∀ a, Fr n ds F a → Q (.exit id) a w) : CW P (.exit id) Q n ds F w := fun a ha => wp_exit (K a ha)
theorem CW.block {id : Nat} {c : Code} (h : CW P c (Exit.inBlock id Q) n ds F w) : CW P (.block id c) Q n ds F w := fun a ha => wp_block (h a ha)
theorem CW.yes {c : Operand} {x y : Code} (hc : ev F c = some (.bool true)) (h : CW P x Q n ds F w) : CW P (.cond c x y) Q n ds F w := fun a ha => wp_cond_true (ha.eval hc) (h a ha)
theorem CW.no {c : Operand} {x y : Code} (hc : ev F c = some (.bool false)) (h : CW P y Q n ds F w) : CW P (.cond c x y) Q n ds F w := fun a ha => wp_cond_false (ha.eval hc) (h a ha)
theorem CW.cond {c : Operand} {x y : Code} (t : Bool) (hc : ev F c = some (.bool t)) (ht : t = true → CW P x Q n ds F w) (hf : t = false → CW P y Q n ds F w) : CW P (.cond c x y) Q n ds F w :=
  fun a ha => wp_cond_split (ha.eval hc) (fun h => ht h a ha) (fun h => hf h a ha)

/-- what a round must come to, if it is to go on. -/
def Again {σ : Type} (n : Nat) (ds : List Deferred) (I : σ → World → Prop) (FF : σ → PF) (μ : σ → Nat) (Q : Exit → Act → World → Prop) (m : Nat) : Exit → Act → World → Prop
  | .normal, a, w => ∃ s, I s w ∧ μ s < m ∧ Fr n ds (FF s) a
  | e, a, w => Q e a w

theorem CW.loop {σ : Type} {c : Code} (I : σ → World → Prop) (FF : σ → PF) (μ : σ → Nat) (s : σ) (h0 : I s w) (l : List Nat) (hF : F.keep l = FF s)
    (round : ∀ s w, I s w → CW P c (Again n ds I FF μ Q (μ s)) n ds (FF s) w) : CW P (.loop c) Q n ds F w := by
  intro a ha
  classical
  have hmeas : ∀ a w, (∃ s, I s w ∧ Fr n ds (FF s) a) → ∃ m, (∃ s, I s w ∧ Fr n ds (FF s) a ∧ μ s = m) ∧ ∀ s, I s w → Fr n ds (FF s) a → m ≤ μ s := by
    intro a w ⟨s, hs, hf⟩
    have key : ∀ m, (∃ s, I s w ∧ Fr n ds (FF s) a ∧ μ s = m) → ∃ m, (∃ s, I s w ∧ Fr n ds (FF s) a ∧ μ s = m) ∧ ∀ s, I s w → Fr n ds (FF s) a → m ≤ μ s := by
      intro m
      induction m using Nat.strongRecOn with
      | _ m ih =>
        intro hm
        by_cases hex : ∃ s, I s w ∧ Fr n ds (FF s) a ∧ μ s < m
        · obtain ⟨s', h1, h2, h3⟩ := hex
          exact ih (μ s') h3 ⟨s', h1, h2, rfl⟩
        · exact ⟨m, hm, fun s' h1 h2 => Nat.le_of_not_lt fun h3 => hex ⟨s', h1, h2, h3⟩⟩
    exact key (μ s) ⟨s, hs, hf, rfl⟩
  refine wp_loop (fun a w => ∃ s, I s w ∧ Fr n ds (FF s) a) (fun a w => if h : ∃ s, I s w ∧ Fr n ds (FF s) a then Classical.choose (hmeas a w h) else 0) ⟨s, h0, ha.keep l hF⟩ ?_
  intro a w hI
  have hc := Classical.choose_spec (hmeas a w hI)
  obtain ⟨⟨s, hs, hf, hm⟩, _⟩ := hc
  simp only [dif_pos hI]
  rw [← hm]
  refine wp_mono (round s w hs a hf) fun e a' w' hq => ?_
  cases e with
  | normal =>
    obtain ⟨s', h1, h2, h3⟩ := hq
    have hI' : ∃ s, I s w' ∧ Fr n ds (FF s) a' := ⟨s', h1, h3⟩
    refine ⟨hI', ?_⟩
    simp only [dif_pos hI']
    exact Nat.lt_of_le_of_lt ((Classical.choose_spec (hmeas a' w' hI')).2 s' h1 h3) h2
  | exit id => exact hq
  | goto l => exact hq
  | ret => exact hq
  | panic ch => exact hq
  | outgrown => exact hq
end

section
variable {P : Program} {n : Nat} {F : PF} {w : World}
def argF (l : List Value) : Nat → PF
  | i => match l with | [] => [] | v :: r => (i, v) :: argF r (i + 1)
theorem argF_get (l : List Value) : ∀ (i j : Nat) (v : Value), (argF l i).get j = some v → i ≤ j ∧ l[j - i]? = some v := by
  induction l with
  | nil => intro i j v h; simp [argF, PF.get] at h
  | cons u r ih =>
    intro i j v h
    simp only [argF, PF.get] at h
    split at h
    · rename_i hb
      have := Nat.eq_of_beq_eq_true hb
      subst this
      simpa using h
    · rename_i hb
      have hne : i ≠ j := fun e => by subst e; simp at hb
      obtain ⟨h1, h2⟩ := ih (i + 1) j v h
      refine ⟨by omega, ?_⟩
      rw [show j - i = (j - (i + 1)) + 1 by omega]
      simpa using h2
theorem calls_of_CW {f : FuncId} {fn : Func} {c : Code} {args : Array Value} {R : Ending → World → Prop} (hf : P.funcs[f]? = some fn) (hb : fn.body = some c) (hn : fn.ntmps = n) (hs : Nat.ble args.size n = true)
    (l : List Nat) (hF : (argF args.toList 0).keep l = F) (h : CW P c (bodyPost P fn R) n [] F w) : Calls P f args w R := by
  have hsz : args.size ≤ n := Nat.le_of_ble_eq_true hs
  refine calls_of_wp hf hb (h _ (Fr.keep ⟨?_, rfl, ?_⟩ l hF))
  · simp [hn]; omega
  · intro i v hv
    obtain ⟨_, h2⟩ := argF_get args.toList 0 i v hv
    simp only [Nat.sub_zero, Array.getElem?_toList] at h2
    have hi := (Array.getElem?_eq_some_iff.1 h2).1
    refine ⟨?_, by omega⟩
    rw [Array.getD_eq_getD_getElem?, Array.getElem?_append_left hi, h2]
    rfl
theorem calls_of_CW_defers {f : FuncId} {fn : Func} {c : Code} {args : Array Value} {R : Ending → World → Prop} (hf : P.funcs[f]? = some fn) (hb : fn.body = some c) (hn : fn.ntmps = n) (hs : Nat.ble args.size n = true)
    (l : List Nat) (hF : (argF args.toList 0).keep l = F) (h : CW P c (bodyPostD P fn R) n [] F w) : Calls P f args w R := by
  have hsz : args.size ≤ n := Nat.le_of_ble_eq_true hs
  refine calls_of_wp_defers hf hb (h _ (Fr.keep ⟨?_, rfl, ?_⟩ l hF))
  · simp [hn]; omega
  · intro i v hv
    obtain ⟨_, h2⟩ := argF_get args.toList 0 i v hv
    simp only [Nat.sub_zero, Array.getElem?_toList] at h2
    have hi := (Array.getElem?_eq_some_iff.1 h2).1
    refine ⟨?_, by omega⟩
    rw [Array.getD_eq_getD_getElem?, Array.getElem?_append_left hi, h2]
    rfl

/-- results that lie in slots. -/
def resL (F : PF) : List ResultVar → Option (List Value)
  | [] => some []
  | .tmp t :: r => match F.get t, resL F r with | some v, some l => some (v :: l) | _, _ => none
  | .cell _ _ :: _ => none
def resV (fn : Func) (F : PF) : Option Value := match resL F fn.results.toList with | some [v] => some v | some l => some (.tuple l.toArray) | none => none

theorem resL_run {ds : List Deferred} {a : Act} (ha : Fr n ds F a) (f : ResultVar → Sem Value) (hf : ∀ t, f (.tmp t) = Pure.pure (a.tmps.getD t undef)) : ∀ (l : List ResultVar) (vs : List Value), resL F l = some vs →
    (l.mapM f).run P w = .ok vs w
  | [], vs, h => by simp [resL] at h; subst h; rfl
  | .tmp t :: r, vs, h => by
    unfold resL at h
    split at h
    · rename_i v l hv hl
      simp only [Option.some.injEq] at h
      subst h
      have e := (ha.val t v hv).1
      have ih := resL_run ha f hf r l hl
      simp only [List.mapM_cons, Sem.run_bind, Sem.run_pure, Result.andThen_ok, ih, e, hf]
    · cases h
  | .cell c t :: r, vs, h => by simp [resL] at h
theorem resA_run {ds : List Deferred} {a : Act} (ha : Fr n ds F a) {fn : Func} {f : ResultVar → Sem Value} (hf : ∀ t, f (.tmp t) = Pure.pure (a.tmps.getD t undef)) {vs : List Value} (h : resL F fn.results.toList = some vs) :
    (fn.results.mapM f).run P w = .ok vs.toArray w := by
  have := resL_run (P := P) (w := w) ha f hf fn.results.toList vs h
  rw [Array.mapM_eq_mapM_toList]
  simp only [Sem.run_map, this, Result.andThen_ok]

theorem resV_run {fn : Func} {ds : List Deferred} {a : Act} (ha : Fr n ds F a) {v : Value} (h : resV fn F = some v) : (results fn a.tmps).run P w = .ok v w := by
  unfold resV at h
  split at h
  · rename_i u hl
    simp only [Option.some.injEq] at h
    subst h
    unfold results
    rw [Sem.run_bind, resA_run ha (fun t => rfl) hl]
    rfl
  · rename_i l hne hl
    simp only [Option.some.injEq] at h
    subst h
    unfold results
    rw [Sem.run_bind, resA_run ha (fun t => rfl) hl]
    have : l.toArray.size ≠ 1 := by
      intro e
      match l, e with
      | [u], _ => exact hne u rfl
    simp only [Result.andThen_ok, this, dite_false]
    rfl
  · cases h

theorem retV {fn : Func} {R : Ending → World → Prop} (v : Value) (h : resV fn F = some v) (hR : R (.returned v) w) : ∀ a, Fr n [] F a → bodyPost P fn R .ret a w :=
  fun _ ha => ⟨ha.defers, v, resV_run ha h, hR⟩
theorem endV {fn : Func} {R : Ending → World → Prop} (v : Value) (h : resV fn F = some v) (hR : R (.returned v) w) : ∀ a, Fr n [] F a → bodyPost P fn R .normal a w :=
  fun _ ha => ⟨ha.defers, v, resV_run ha h, hR⟩
theorem panicV {fn : Func} {R : Ending → World → Prop} {ch : List PanicEntry} (hR : R (.panicked ch) w) : ∀ a, Fr n [] F a → bodyPost P fn R (.panic ch) a w :=
  fun _ ha => ⟨ha.defers, hR⟩
end
end Go.V
