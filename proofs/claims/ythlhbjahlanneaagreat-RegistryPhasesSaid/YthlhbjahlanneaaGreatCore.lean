/- Rules by which a function's code is walked with a frame that is known in part; nothing here is about one program. -/
import Derived.Orders
import Derived.Deep.Quiet
import Derived.KernelRfl
import Derived.Below
import Derived.WalkKit
namespace Go.V
open Go.RowKit

/-! ### What a test says -/
/-- A frame known in part: what is known of the slots. -/
abbrev PF := List (Nat × Value)
def PF.get : PF → Nat → Option Value
  | [], _ => none
  | (j, v) :: r, i => match Nat.beq j i with | true => some v | false => PF.get r i
def PF.keep (F : PF) : List Nat → PF
  | [] => []
  | i :: r => match F.get i with | some v => (i, v) :: F.keep r | none => F.keep r
def upd (F : PF) (dst : Option Tmp) (v : Value) : PF := match dst with | some d => (d, v) :: F | none => F
def ev (F : PF) : Operand → Option Value
  | .tmp t => F.get t
  | .const v => some v
  | .global g => some (.pointer (some ⟨g, 0, none⟩))
  | .func f => some (.func (.func f) #[] #[])
def evD (F : PF) (x : Operand) : Value := (ev F x).getD undef

structure Fr (n : Nat) (ds : List Deferred) (F : PF) (a : Act) : Prop where
  size : a.tmps.size = n
  defers : a.defers = ds
  val : ∀ i v, F.get i = some v → a.tmps.getD i undef = v ∧ i < n

theorem Fr.eval {n : Nat} {ds : List Deferred} {F : PF} {a : Act} (h : Fr n ds F a) {x : Operand} {v : Value} (hx : ev F x = some v) : a.eval x = v := by
  cases x with
  | tmp t => exact (h.val t v hx).1
  | const u => simpa [ev, Act.eval] using hx
  | global g => simpa [ev, Act.eval] using hx
  | func f => simpa [ev, Act.eval] using hx

def okDst (n : Nat) : Option Tmp → Bool | some d => Nat.blt d n | none => true

theorem Fr.upd {n : Nat} {ds : List Deferred} {F : PF} {a : Act} (h : Fr n ds F a) {dst : Option Tmp} (hd : okDst n dst = true) (v : Value) : Fr n ds (upd F dst v) (a.put dst v) := by
  cases dst with
  | none => exact h
  | some d =>
    have hdn : d < n := by simpa [okDst, Nat.blt_eq] using hd
    refine ⟨by simp [Act.put, h.size], by simp [Act.put, h.defers], ?_⟩
    intro i u hu
    simp only [Go.V.upd, PF.get] at hu
    split at hu
    · rename_i hb
      have := Nat.eq_of_beq_eq_true hb
      subst this
      simp only [Option.some.injEq] at hu
      subst hu
      refine ⟨?_, hdn⟩
      simp only [Act.put]
      rw [Array.getD_eq_getD_getElem?, Array.getElem?_setIfInBounds_self_of_lt (by rw [h.size]; exact hdn)]
      rfl
    · rename_i hb
      have hne : d ≠ i := fun e => by subst e; simp at hb
      have := h.val i u hu
      refine ⟨?_, this.2⟩
      simp only [Act.put]
      rw [Array.getD_eq_getD_getElem?, Array.getElem?_setIfInBounds_ne hne, ← Array.getD_eq_getD_getElem?]
      exact this.1

/-- The value that a guard looks at: none: it isn't known; some none: it is no truth. -/
def guardVal (ops : Array Oper) (F : PF) (j : Nat) : Option (Option Bool) :=
  match (ops[j]?).bind (·.dst) with
  | some d => match F.get d with | some (.bool b) => some (some b) | some (.tuple _) => some none | _ => none
  | none => none

theorem guardVal_spec {ops : Array Oper} {F : PF} {j : Nat} {b : Option Bool} {n : Nat} {ds : List Deferred} {a : Act} (h : Fr n ds F a) (hg : guardVal ops F j = some b) : yielded ops a.tmps j = b := by
  unfold guardVal at hg
  unfold yielded
  split at hg
  · rename_i d hd
    rw [hd]
    have key : ∀ v, F.get d = some v → a.tmps[d]? = some v := by
      intro v hv
      have := h.val d _ hv
      have hlt : d < a.tmps.size := by rw [h.size]; exact this.2
      have e := this.1
      rw [Array.getD_eq_getD_getElem?, Array.getElem?_eq_getElem hlt] at e
      rw [Array.getElem?_eq_getElem hlt]
      simpa using e
    split at hg
    · rename_i c hc
      simp only [Option.bind_some, key _ hc]
      simpa using hg
    · rename_i c hc
      simp only [Option.bind_some, key _ hc]
      simpa using hg
    · cases hg
  · cases hg

def notSelect (o : Oper) : Bool := match o.op with | .select .. => false | _ => true
def present (F : PF) (o : Oper) : Bool := o.op.operands.toList.all fun x => (ev F x).isSome

/-- Is the operation wanted? None: it can't be told. -/
def wants (ops : Array Oper) (F : PF) (o : Oper) : Option Bool :=
  match o.guard with
  | none => some true
  | some (j, b) => (guardVal ops F j).map fun c => match c, b with | some true, true => true | some false, false => true | _, _ => false

theorem wants_spec {ops : Array Oper} {F : PF} {o : Oper} {b : Bool} {n : Nat} {ds : List Deferred} {a : Act} (h : Fr n ds F a) (hg : wants ops F o = some b) : Region.wanted o (yielded ops a.tmps) = b := by
  unfold wants at hg
  unfold Region.wanted
  split at hg
  · rename_i hn
    rw [hn]; simpa using hg
  · rename_i j c hn
    rw [hn]
    cases hv : guardVal ops F j with
    | none => rw [hv] at hg; cases hg
    | some d =>
      rw [hv] at hg
      simp only [Option.map_some, Option.some.injEq] at hg
      simp only [guardVal_spec h hv]
      subst hg
      rcases d with _ | d
      · cases c <;> rfl
      · cases d <;> cases c <;> rfl

/-- The operation at k, if it is wanted and all that it takes is known. -/
def dec (ops : Array Oper) (k n : Nat) (F : PF) : Option Oper :=
  match ops[k]? with
  | none => none
  | some o =>
    match wants ops F o with
    | some true => match (okDst n o.dst && (notSelect o && present F o)) with | true => some o | false => none
    | _ => none

theorem dec_spec {ops : Array Oper} {k n : Nat} {F : PF} {o : Oper} (h : dec ops k n F = some o) :
    ops[k]? = some o ∧ okDst n o.dst = true ∧ (∀ cs b, o.op ≠ .select cs b) ∧ (∀ x ∈ o.op.operands, (ev F x).isSome = true) ∧
    ∀ {ds : List Deferred} {a : Act}, Fr n ds F a → Region.wanted o (yielded ops a.tmps) = true := by
  unfold dec at h
  split at h
  · cases h
  · rename_i o' ho
    split at h
    · rename_i hw
      split at h
      · rename_i hb
        simp only [Option.some.injEq] at h
        subst h
        simp only [Bool.and_eq_true] at hb
        refine ⟨ho, hb.1, ?_, ?_, fun hfr => wants_spec hfr hw⟩
        · intro cs b e
          have := hb.2.1
          simp [notSelect, e] at this
        · intro x hx
          have := hb.2.2
          unfold present at this
          rw [List.all_eq_true] at this
          exact this x (Array.mem_toList_iff.2 hx)
      · cases h
    · cases h

theorem exec_eq {n : Nat} {ds : List Deferred} {F : PF} {a : Act} {o : Oper} (h : Fr n ds F a) (hs : ∀ cs b, o.op ≠ .select cs b) (hp : ∀ x ∈ o.op.operands, (ev F x).isSome = true) :
    execOp a.eval o = execOp (evD F) o :=
  execOp_congr o hs fun x hx => by
    obtain ⟨v, hv⟩ := Option.isSome_iff_exists.1 (hp x hx)
    rw [h.eval hv]; simp [evD, hv]

/-- One operation that yields a value, or none, in the world as it is reckoned. -/
def step1 (P : Program) (ops : Array Oper) (k n : Nat) (F : PF) (w : World) : Option (PF × World) :=
  match ops[k]? with
  | none => none
  | some o =>
    match wants ops F o with
    | some true =>
      match (okDst n o.dst && (notSelect o && present F o)) with
      | true =>
        match (execOp (evD F) o).run P w with
        | .ok (.value v) w' => some (upd F o.dst v, w')
        | .ok .skip w' => some (upd F o.dst undef, w')
        | _ => none
      | false => none
    | some false => match okDst n o.dst with | true => some (upd F o.dst undef, w) | false => none
    | none => none
/-- m operations from k on. -/
def evK (P : Program) (ops : Array Oper) (n : Nat) : Nat → Nat → PF → World → Option (PF × World)
  | 0, _, F, w => some (F, w)
  | m + 1, k, F, w => match step1 P ops k n F w with | some (F', w') => evK P ops n m (k + 1) F' w' | none => none

/-- A region from operation k on, in every frame that fits. -/
def WR (P : Program) (ops : Array Oper) (Q : Exit → Act → World → Prop) (k n : Nat) (ds : List Deferred) (F : PF) (w : World) : Prop :=
  ∀ a, Fr n ds F a → wpList P ops Q (ops.toList.drop k) a w
/-- Code, in every frame that fits. -/
def CW (P : Program) (c : Code) (Q : Exit → Act → World → Prop) (n : Nat) (ds : List Deferred) (F : PF) (w : World) : Prop :=
  ∀ a, Fr n ds F a → c.wp P Q a w

section
variable {P : Program} {ops : Array Oper} {Q : Exit → Act → World → Prop} {k n : Nat} {ds : List Deferred} {F F' : PF} {w w' : World}

theorem drop_of_get {o : Oper} (h : ops[k]? = some o) : ops.toList.drop k = o :: ops.toList.drop (k + 1) := by
  have hlt : k < ops.toList.length := by
    have := (Array.getElem?_eq_some_iff.1 h).1; simpa using this
  rw [List.drop_eq_getElem_cons hlt]
  congr 1
  have := (Array.getElem?_eq_some_iff.1 h).2
  simpa using this

theorem WR.step {o : Oper} (hd : dec ops k n F = some o)
    (h : ∀ a, Fr n ds F a → execOp a.eval o = execOp (evD F) o → o.wp P a w (wpList P ops Q (ops.toList.drop (k + 1))) Q) : WR P ops Q k n ds F w := by
  intro a ha
  obtain ⟨ho, _, hs, hp, hw⟩ := dec_spec hd
  rw [drop_of_get ho]
  unfold wpList
  rw [if_pos (hw ha)]
  exact .inl (h a ha (exec_eq ha hs hp))

theorem WR.val {o : Oper} {v : Value} (hd : dec ops k n F = some o) (hr : (execOp (evD F) o).run P w = .ok (.value v) w')
    (K : WR P ops Q (k + 1) n ds (upd F o.dst v) w') : WR P ops Q k n ds F w :=
  .step hd fun a ha he => by
    unfold Oper.wp; rw [he, hr]
    exact K _ (ha.upd (dec_spec hd).2.1 v)

theorem WR.skip {o : Oper} (hd : dec ops k n F = some o) (hr : (execOp (evD F) o).run P w = .ok .skip w')
    (K : WR P ops Q (k + 1) n ds (upd F o.dst undef) w') : WR P ops Q k n ds F w :=
  .step hd fun a ha he => by
    unfold Oper.wp; rw [he, hr]
    exact K _ (ha.upd (dec_spec hd).2.1 undef)

theorem WR.enter {o : Oper} {f : FuncId} {args : Array Value} {R : Ending → World → Prop} (hd : dec ops k n F = some o) (hr : (execOp (evD F) o).run P w = .ok (.enter f args) w')
    (hc : Calls P f args w' R) (K : ∀ v w'', R (.returned v) w'' → WR P ops Q (k + 1) n ds (upd F o.dst v) w'')
    (hp : ∀ ch w'', R (.panicked ch) w'' → ∀ a, Fr n ds F a → Q (.panic ch) a w'') (ho : ∀ w'', R .outgrown w'' → LetsOut Q) : WR P ops Q k n ds F w :=
  .step hd fun a ha he => by
    unfold Oper.wp; rw [he, hr]
    refine hc.mono fun e w'' hR => ?_
    cases e with
    | returned v => exact K v w'' hR _ (ha.upd (dec_spec hd).2.1 v)
    | panicked ch => exact hp ch w'' hR a ha
    | outgrown => exact ho w'' hR

theorem WR.throw {o : Oper} {v : Value} (hd : dec ops k n F = some o) (hr : (execOp (evD F) o).run P w = .halt (.panic v) w')
    (K : ∀ a, Fr n ds F a → Q (.panic [{ v, recovered := false }]) a w') : WR P ops Q k n ds F w :=
  .step hd fun a ha he => by
    unfold Oper.wp; rw [he, hr]
    exact K a ha

theorem WR.fin (hk : Nat.ble ops.size k = true) (K : ∀ a, Fr n ds F a → Q .normal a w) : WR P ops Q k n ds F w := fun a ha => by
  rw [List.drop_eq_nil_of_le (by simpa using Nat.le_of_ble_eq_true hk)]
  exact K a ha

theorem CW.region {id : Nat} (h : WR P ops Q 0 n ds F w) : CW P (.region id ops false) Q n ds F w := fun a ha => wp_region_list (by simpa using h a ha)

theorem CW.skip (K : ∀ a, Fr n ds F a → Q .normal a w) : CW P .skip Q n ds F w := fun a ha => wp_skip (K a ha)
theorem CW.ret (K : ∀ a, Fr n ds F a → Q .ret a w) : CW P .ret Q n ds F w := fun a ha => wp_ret (K a ha)
theorem CW.exit {id : Nat} (K : ∀ a, Fr n ds F a → Q (.exit id) a w) : CW P (.exit id) Q n ds F w := fun a ha => wp_exit (K a ha)
theorem CW.block {id : Nat} {c : Code} (h : CW P c (Exit.inBlock id Q) n ds F w) : CW P (.block id c) Q n ds F w := fun a ha => wp_block (h a ha)
theorem CW.cond {c : Operand} {x y : Code} (t : Bool) (hc : ev F c = some (.bool t)) (ht : t = true → CW P x Q n ds F w) (hf : t = false → CW P y Q n ds F w) : CW P (.cond c x y) Q n ds F w :=
  fun a ha => wp_cond_split (ha.eval hc) (fun h => ht h a ha) (fun h => hf h a ha)

/-- what a round must come to, if it is to go on. -/
def Again {σ : Type} (n : Nat) (ds : List Deferred) (I : σ → World → Prop) (FF : σ → PF) (μ : σ → Nat) (Q : Exit → Act → World → Prop) (m : Nat) : Exit → Act → World → Prop
  | .normal, a, w => ∃ s, I s w ∧ μ s < m ∧ Fr n ds (FF s) a
  | e, a, w => Q e a w

end

section
variable {P : Program} {n : Nat} {F : PF} {w : World}
def argF (l : List Value) : Nat → PF
  | i => match l with | [] => [] | v :: r => (i, v) :: argF r (i + 1)
theorem argF_get (l : List Value) : ∀ (i j : Nat) (v : Value), (argF l i).get j = some v → i ≤ j ∧ l[j - i]? = some v := by
  induction l with
  | nil => intro i j v h; simp [argF, PF.get] at h
  | cons u r ih =>
    intro i j v h
    simp only [argF, PF.get] at h
    split at h
    · rename_i hb
      have := Nat.eq_of_beq_eq_true hb
      subst this
      simpa using h
    · rename_i hb
      have hne : i ≠ j := fun e => by subst e; simp at hb
      obtain ⟨h1, h2⟩ := ih (i + 1) j v h
      refine ⟨by omega, ?_⟩
      rw [show j - i = (j - (i + 1)) + 1 by omega]
      simpa using h2
/-- results that lie in slots. -/
def resL (F : PF) : List ResultVar → Option (List Value)
  | [] => some []
  | .tmp t :: r => match F.get t, resL F r with | some v, some l => some (v :: l) | _, _ => none
  | .cell _ _ :: _ => none
def resV (fn : Func) (F : PF) : Option Value := match resL F fn.results.toList with | some [v] => some v | some l => some (.tuple l.toArray) | none => none

end
end Go.V
