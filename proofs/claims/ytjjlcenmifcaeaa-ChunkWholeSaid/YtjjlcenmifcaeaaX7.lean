/- One step of the interpreter, of any sort; a region in the order of its text. Nothing here is about one program. -/
import Derived.Test.YtjjlcenmifcaeaaXM
namespace Go.X
open Go.RowKit Go.V

/-- What is known of a function: what a call comes to. -/
structure CallSpec (T : Tab) where
  call : {R : Type} → List (AV T.U) → List (Ent T.U) → (AV T.U → List (Ent T.U) → Option R) → (AV T.U → List (Ent T.U) → Option R) → Option R
  q : {R : Type} → List (AV T.U) → List (Ent T.U) → (AV T.U → Option R) → Option R
  isq : Bool
  wr : List (AV T.U) → List (Ent T.U) → List Nat
/-- What the interpreter is told of a program: the elements of its slice types, its functions. -/
structure Ctx (T : Tab) where
  ty : TypeId → Option Ty
  E : List (FuncId × CallSpec T)
  pin : Nat
  ms : List (Nat × Nat)
  lay : TypeId → Option Lay := fun _ => none
  dr : TypeId → Option (Nat × List TypeId) := fun _ => none
  pm : TypeId → Option (TypeId × Nat) := fun _ => none
section
variable {T : Tab} (P : Program) (C : Ctx T)
def findE : List (FuncId × CallSpec T) → FuncId → Option (CallSpec T)
  | [], _ => none
  | (g, c) :: r, f => match Nat.beq g f with | true => some c | false => findE r f
def notEp : AV T.U → Bool | .eptr _ _ _ _ => false | _ => true
def mayEp : Op → Bool | .move _ => true | .assign _ => true | .fieldAddr _ _ _ => true | _ => false
def enterable (f : FuncId) : Bool := match P.funcs[f]? with | some fn => !(fn.name == "runtime.NumGoroutine") && fn.body.isSome | none => false
/-- how many a map has. -/
def lenM (t : TypeId) (H : List (Ent T.U)) (a : AV T.U) : Option Int :=
  match P.underlying t with
  | some (.map _ _) => match a with
    | .mp i => match H[i]? with | some (.tmap _ _ m) => some ((m.length : Nat) : Int) | _ => none
    | _ => none
  | _ => none
def mpIds : List (AV T.U) → List Nat
  | [] => []
  | .mp i :: r => i :: mpIds r
  | _ :: r => mpIds r
def lenOf (t : TypeId) (H : List (Ent T.U)) (a : AV T.U) : Option Int :=
  match P.underlying t with
  | some (.slice _) => match lenA T H a with | some n => some ((n : Nat) : Int) | none => none
  | some .string => match a with | .cell ⟨.str, s⟩ => some ((ByteArray.size s : Nat) : Int) | _ => none
  | _ => none
section
variable {R : Type}
def pickA (c : Bool) (x y : AV T.U) (K : AV T.U → Option R) : Option R :=
  match pickV T c x y with
  | some z => K z
  | none => match notEp x && notEp y with | true => if c = true then K x else K y | false => none
def callA (c : Call) (st : St T) (K : AV T.U → List (Ent T.U) → Option R) (Kp : AV T.U → List (Ent T.U) → Option R) : Option R :=
  match aevL T st.F c.args.toList with
  | none => none
  | some as =>
    match c.callee with
    | .value f => match aev T st.F f with
      | some (.fn (.func g) first caps) => match enterable P g, findE C.E g with
        | true, some cs => match (first ++ as ++ caps).all notEp with | true => cs.call (first ++ as ++ caps) st.H K Kp | false => none
        | _, _ => none
      | _ => none
    | .builtin .append => match as, c.argTypes.toList with
      | [s, x], [t, t'] => match Nat.beq t t', C.ty t with | true, some e => appA T P e t st.H s x K | _, _ => none
      | _, _ => none
    | .builtin .clear => match as, c.argTypes.toList with
      | [s], [t] => clearA T P t st.H s K
      | _, _ => none
    | .builtin .delete => match as, c.argTypes.toList with
      | [m, .cell ⟨.int kx, x⟩], t :: _ => (match delA T P t st.H m kx x with | some H1 => K (.tup []) H1 | none => none)
      | _, _ => none
    | _ => none
/-- The entries that an operation looks into. -/
def rdOf (o : Oper) (F : AF T) : List Nat :=
  match o.op with
  | .load _ x => match aev T F x with | some a => a.ids | none => []
  | .convert _ _ x => match aev T F x with | some a => a.ids | none => []
  | .lookup _ m _ _ => match aev T F m with | some a => a.ids | none => []
  | .call c => match c.callee with
    | .value f => match aev T F f, aevL T F c.args.toList with | some a, some as => a.ids ++ idsL as | _, _ => []
    | .builtin .len => match aevL T F c.args.toList with | some as => mpIds as | none => []
    | _ => []
  | _ => []
/-- operations on arrays, on what may be nothing, on maps. -/
def arrOp : Op → Bool
  | .indexAddr t _ _ => (arrInfo P t).isSome
  | .index t _ _ => (arrInfo P t).isSome
  | .slice t _ _ _ none => (arrS P t).isSome
  | .sliceToArrayPointer _ _ => true
  | .load t _ => (arrInfo P t).isSome
  | .nilCheck _ => true
  | .lookup _ _ _ _ => true
  | _ => false
def elemD (t : TypeId) : Bool := match P.underlying t with | some (.array _ e) => (match P.underlying e with | some d => !aggD d | none => false) | _ => false
def readR (o : Oper) (st : St T) (K : AV T.U → Option R) : Option R :=
  match o.op with
  | .indexAddr t x y => match arrInfo P t, aev T st.F x, aev T st.F y with
    | some (n, sz), some s, some (.cell ⟨.int _, j⟩) => indexR T n sz st.H s j K
    | _, _, _ => none
  | .index t x y => match arrInfo P t, aev T st.F x, aev T st.F y, elemD P t with
    | some (n, sz), some s, some (.cell ⟨.int _, j⟩), true => indexV T n sz s j K
    | _, _, _, _ => none
  | .slice t x lo hi none => match arrS P t, aev T st.F x, bndA st.F lo, bndA st.F hi with
    | some (n, sz), some s, some l, some h => sliceR T n sz st.H s l h K
    | _, _, _, _ => none
  | .sliceToArrayPointer t x => match arrInfo P t, aev T st.F x with
    | some (n, sz), some s => arrOfA T n sz st.H s K
    | _, _ => none
  | .load t x => match arrInfo P t, aev T st.F x with
    | some (n, sz), some p => loadR T n sz (match P.info? t with | some i => Nat.beq i.size (n * sz) | none => false) st.H p K (obind (loadA T P t st.H p) K)
    | _, _ => none
  | .nilCheck x => match aev T st.F x with | some a => (match someA a with | true => K a | false => none) | none => none
  | .lookup t m x co => match aev T st.F m, aev T st.F x with
    | some a, some (.cell ⟨.int kx, x⟩) => lookA T P t co st.H a kx x fun b => match notEp b with | true => K b | false => none
    | _, _ => none
  | _ => none
/-- What an operation that only reads yields. -/
def readB (o : Oper) (st : St T) (K : AV T.U → Option R) : Option R :=
  match pureA T P o.op st.F with
  | some a => match mayEp o.op || notEp a with | true => K a | false => none
  | none => match o.op with
    | .pick c a b => match aev T st.F c, aev T st.F a, aev T st.F b with
      | some (.cell ⟨.bool, c⟩), some x, some y => pickA c x y K
      | _, _, _ => none
    | .binOp b _ x y _ => match aev T st.F x, aev T st.F y with
      | some x, some y => divA T b x y K
      | _, _ => none
    | .load t x => match aev T st.F x with
      | some p => match loadA T P t st.H p with | some a => K a | none => none
      | none => none
    | .convert s d x => match P.underlying s, P.underlying d, aev T st.F x with
      | some (.slice e), some .string, some a => match P.underlying e with
        | some (.int .u8) => rdF T st.H (.list (.int .u8)) a fun xs => K (.cell ⟨.str, bytesStr xs⟩)
        | _ => none
      | _, _, _ => none
    | .index t x y => match P.underlying t, aev T st.F x, aev T st.F y with
      | some .string, some (.cell ⟨.str, s⟩), some (.cell ⟨.int _, j⟩) => strAt s j fun b => K (cI T .u8 b)
      | _, _, _ => none
    | .indexAddr t x y => match aev T st.F x, aev T st.F y with
      | some s, some (.cell ⟨.int _, j⟩) => indexA T P t st.H s j K
      | _, _ => none
    | .slice t x lo hi none => match aev T st.F x, bndA st.F lo, bndA st.F hi with
      | some s, some l, some h => match l, h with
        | none, none => none
        | l, h => sliceA T P t st.H s l h K
      | _, _, _ => none
    | .typeAssert x _ at_ ok => match aev T st.F x with
      | some a => match assertA T P a at_ ok with | some b => (match notEp b with | true => K b | false => none) | none => none
      | none => none
    | .call c => match aevL T st.F c.args.toList with
      | none => none
      | some as => match c.callee with
        | .builtin .len => match as, c.argTypes.toList with
          | [a], [t] => match lenOf P t st.H a with
            | some n => K (cI T .i64 n)
            | none => match lenM P t st.H a with | some n => K (cI T .i64 n) | none => none
          | _, _ => none
        | .builtin .min => match minA T as with | some a => K a | none => none
        | .builtin .max => match maxA T as with | some a => K a | none => none
        | _ => none
    | _ => none
def readA (o : Oper) (st : St T) (K : AV T.U → Option R) : Option R := match arrOp P o.op with | true => readR P o st K | false => readB P o st K
def stepA (o : Oper) (st : St T) (K : St T → Option R) (Kp : AV T.U → St T → Option R) : Option R :=
  let put := fun (a : AV T.U) (H : List (Ent T.U)) => K ⟨updA T st.F o.dst a, H⟩
  match o.op with
  | .alloc e => match zeroA T P e with
    | some cs => (match layA T (C.lay e) cs with | some cs => put (.ptr st.H.length 0) (st.H ++ [.blk e cs]) | none => none)
    | none => none
  | .box e x => match aev T st.F x with
    | some a => match boxA T (C.lay e) a with | some cs => put (.ptr st.H.length 0) (st.H ++ [.blk e cs]) | none => none
    | none => none
  | .makeMap t none => match mapK P t, C.ty t with
    | some (k, _, _), none => put (.mp st.H.length) (st.H ++ [.map k []])
    | some (k, _, _), some ty => put (.mp st.H.length) (st.H ++ [.tmap k ty []])
    | none, _ => none
  | .insert t m x v => match o.dst, aev T st.F m, aev T st.F x, aev T st.F v with
    | none, some a, some (.cell ⟨.int kx, x⟩), some b => (match notEp b, insA T P t st.H a kx x b with | true, some H1 => K ⟨st.F, H1⟩ | _, _ => none)
    | _, _, _, _ => none
  | .mapUpdate t m x v => match o.dst, aev T st.F m, aev T st.F x, aev T st.F v with
    | none, some a, some (.cell ⟨.int kx, x⟩), some b => (match notEp b, insA T P t st.H a kx x b with | true, some H1 => K ⟨st.F, H1⟩ | _, _ => none)
    | _, _, _, _ => none
  | .store t x y => match o.dst, aev T st.F x, aev T st.F y with
    | none, some p, some a => match storeA T P t st.H p a with | some H1 => K ⟨st.F, H1⟩ | none => none
    | _, _, _ => none
  | .makeSlice t x y => match aev T st.F x, aev T st.F y, C.ty t with
    | some (.cell ⟨.int _, l⟩), some (.cell ⟨.int _, c⟩), some e => makeA T P e t st.H l c put
    | _, _, _ => none
  | .buildSlice t len ps => match partsA T st.F ps.toList, C.ty t with
    | some l, some ty => match buildA T P ty t len l with | some (e, xs) => put (.own st.H.length) (st.H ++ [.row e ty xs]) | none => none
    | some l, none => match buildB T P t len l with | some (e, sz, cs) => put (.sl st.H.length sz 0 len) (st.H ++ [.blk e cs]) | none => none
    | _, _ => none
  | .call c => match reads c with
    | true => readA P o st fun a => put a st.H
    | false => callA P C c st put fun a H => Kp a ⟨st.F, H⟩
  | .convert s d x => match P.underlying s, P.underlying d, aev T st.F x with
    | some .string, some (.slice e), some (.cell ⟨.str, b⟩) => match P.underlying e with
      | some (.int .u8) => put (.cell ⟨.list (.int .u8), strBytes b⟩) st.H
      | _ => none
    | some (.slice _), some (.slice e), some (.own i) => match Nat.beq s d, C.ty d, P.underlying e, appA.rowIn T (.int .u8) st.H (.own i) with
      | true, some _, some (.int .u8), some (x :: xs) => put (.cell ⟨.list (.int .u8), x :: xs⟩) (st.H.set i .gone)
      | _, _, _, _ => none
    | _, _, _ => readA P o st fun a => put a st.H
  | .panic x => match aev T st.F x with | some (.ifc t a) => Kp (.ifc t a) st | _ => none
  | _ => readA P o st fun a => put a st.H
where
  reads (c : Call) : Bool := match c.callee with | .builtin .len => true | .builtin .min => true | .builtin .max => true | _ => false
end
end
section
variable {T : Tab} {P : Program} {C : Ctx T} {w w' : World} {S S' : List Nat} {φ φ' : Nat → RA} {w0 : World} {S0 : Ow} {F : AF T} {H : List (Ent T.U)} {F' : PF}
variable {rd : List Nat} {ops : Array Oper} {Q : Exit → Act → World → Prop} {k n : Nat} {ds : List Deferred} {o : Oper}
/-- What is known of a function is so. -/
def SoundCall (T : Tab) (P : Program) (f : FuncId) (cs : CallSpec T) : Prop :=
  ∀ {R : Type} (as : List (AV T.U)) (H : List (Ent T.U)) (K Kp : AV T.U → List (Ent T.U) → Option R) (r : R), cs.call as H K Kp = some r →
    ∀ (w0 : World) (S0 : Ow) (F : AF T) (F' : PF) (w : World) (S : List Nat) (φ : Nat → RA), Sim T w0 S0 ⟨F, H⟩ F' w S φ → ∀ vs : List Value, VRL T w S φ as vs → (∀ a ∈ as, okA H a) →
    Calls P f vs.toArray w fun e w' => match e with
      | .returned v => ∃ a H1, K a H1 = some r ∧ ∃ S1 φ1, Sim T w0 S0 ⟨F, H1⟩ F' w' S1 φ1 ∧ VR T w' S1 φ1 a v ∧ okA H1 a
      | .panicked ch => ∃ a H1, Kp a H1 = some r ∧ ∃ v, ch = [{ v := v, recovered := false }] ∧ ∃ S1 φ1, Sim T w0 S0 ⟨F, H1⟩ F' w' S1 φ1 ∧ VR T w' S1 φ1 a v ∧ okA H1 a
      | .outgrown => False
/-- What is known of a call that leaves everything as it was, and whose value has no place. -/
def SoundQ (T : Tab) (P : Program) (f : FuncId) (cs : CallSpec T) : Prop :=
  ∀ {R : Type} (as : List (AV T.U)) (H : List (Ent T.U)) (K : AV T.U → Option R) (r : R), cs.q as H K = some r →
    ∀ (w0 : World) (S0 : Ow) (F : AF T) (F' : PF) (w : World) (S : List Nat) (φ : Nat → RA), Sim T w0 S0 ⟨F, H⟩ F' w S φ → ∀ vs : List Value, VRL T w S φ as vs → (∀ a ∈ as, okA H a) →
    ∃ a v, K a = some r ∧ VR T w S φ a v ∧ okA H a ∧ ∀ w1, Chg S w w1 → Same φ (idsL as) w w1 → Calls P f vs.toArray w1 (RetV w1 v)
/-- The entries out of a list stay; rows stay rows. -/
structure Keeps (T : Tab) (l : List Nat) (H H1 : List (Ent T.U)) : Prop where
  len : H.length ≤ H1.length
  same : ∀ e, e < H.length → e ∉ l → H1[e]? = H[e]?
  row : ∀ (e : Nat) (ty : TypeId) (t : Ty) (ys : List (den T.U t)), e < H.length → H1[e]? = some (.row ty t ys) → ∃ xs, H[e]? = some (.row ty t xs)
/-- What a call comes to, whatever stands behind it. -/
def DetC (cs : CallSpec T) : Prop :=
  ∀ {R : Type} (as : List (AV T.U)) (H : List (Ent T.U)) (K Kp : AV T.U → List (Ent T.U) → Option R) (r : R), cs.call as H K Kp = some r →
    (∃ a H1, K a H1 = some r ∧ Keeps T (cs.wr as H) H H1 ∧ ∀ {R' : Type} (K' Kp' : AV T.U → List (Ent T.U) → Option R'), cs.call as H K' Kp' = K' a H1) ∨
    ∃ a H1, Kp a H1 = some r ∧ Keeps T (cs.wr as H) H H1 ∧ ∀ {R' : Type} (K' Kp' : AV T.U → List (Ent T.U) → Option R'), cs.call as H K' Kp' = Kp' a H1
def EnvOk (T : Tab) (P : Program) (E : List (FuncId × CallSpec T)) : Prop := ∀ f cs, findE E f = some cs → SoundCall T P f cs ∧ SoundQ T P f cs ∧ DetC cs
theorem okA_notEp {a : AV T.U} (h : notEp a = true) (hi : ∀ i ∈ a.ids, i < H.length) : okA H a := ⟨hi, by cases a <;> first | trivial | cases h⟩
theorem aevL_ids {l : List Operand} (hs : Sim T w0 S0 ⟨F, H⟩ F' w S φ) : ∀ {as : List (AV T.U)}, aevL T F l = some as → ∀ i ∈ idsL as, i < H.length := by
  induction l with
  | nil => intro as h; simp only [aevL, Option.some.injEq] at h; subst h; intro i hi; cases hi
  | cons x r ih =>
    intro as h
    unfold aevL at h
    split at h
    · rename_i a l ha hl
      simp only [Option.some.injEq] at h; subst h
      intro i hi
      rw [idsL] at hi
      rcases List.mem_append.1 hi with hi | hi
      · exact (aev_ok hs ha).1 i hi
      · exact ih hl i hi
    · cases h
theorem putsA_idsL {as cs : List (AV T.U)} {o0 : Nat} {m : Nat} (h1 : ∀ i ∈ idsL cs, i < m) (h2 : ∀ i ∈ idsL as, i < m) : ∀ i ∈ idsL (putsA T cs o0 as), i < m := fun i hi => (putsA_ids i hi).elim (h1 i) (h2 i)
theorem fillA_ids {place : Nat → Option (Nat × Nat)} {m : Nat} : ∀ {ps : List (Nat × AV T.U)} {cs cs' : List (AV T.U)}, fillA T place cs ps = some cs' → (∀ i ∈ idsL cs, i < m) → (∀ i ∈ idsL (ps.map Prod.snd), i < m) → ∀ i ∈ idsL cs', i < m
  | [], cs, cs', h, h1, _ => by simp only [fillA, Option.some.injEq] at h; subst h; exact h1
  | (j, a) :: r, cs, cs', h, h1, h2 => by
    rw [List.map_cons, idsL] at h2
    unfold fillA at h
    split at h
    · split at h
      · rename_i hok
        simp only [Bool.and_eq_true] at hok
        exact fillA_ids h (putsA_idsL h1 (by rw [cellsA_ids hok.1]; exact fun i hi => h2 i (List.mem_append.2 (.inl hi)))) fun i hi => h2 i (List.mem_append.2 (.inr hi))
      · cases h
    · cases h
theorem partsA_ids {l : List (Nat × Operand)} (hs : Sim T w0 S0 ⟨F, H⟩ F' w S φ) : ∀ {as : List (Nat × AV T.U)}, partsA T F l = some as → ∀ i ∈ idsL (as.map Prod.snd), i < H.length := by
  induction l with
  | nil => intro as h; simp only [partsA, Option.some.injEq] at h; subst h; intro i hi; cases hi
  | cons x r ih =>
    intro as h
    obtain ⟨j, x⟩ := x
    unfold partsA at h
    split at h
    · rename_i a l ha hl
      simp only [Option.some.injEq] at h; subst h
      intro i hi
      rw [List.map_cons, idsL] at hi
      rcases List.mem_append.1 hi with hi | hi
      · exact (aev_ok hs ha).1 i hi
      · exact ih hl i hi
    · cases h
theorem eqA_ids {t : TypeId} {lit : Bool} {x y a : AV T.U} {neg : Bool} (h : eqA T P t lit x y neg = some a) : a.ids = [] := by
  unfold eqA at h
  split at h
  · simp only [Option.some.injEq] at h; subst h; rfl
  split at h
  · simp only [Option.some.injEq] at h; subst h; rfl
  split at h
  · split at h
    · simp only [Option.some.injEq] at h; subst h; rfl
    · cases h
  · simp only at h
    split at h
    · split at h
      · simp only [Option.some.injEq] at h; subst h; rfl
      · cases h
    · cases h
  · cases h
theorem unA_ids {u : UnOp} {x a : AV T.U} (h : unA T u x = some a) : a.ids = [] := by
  unfold unA at h
  split at h
  · unfold unI at h
    split at h
    · simp only [Option.some.injEq] at h; subst h; rfl
    · simp only [Option.some.injEq] at h; subst h; rfl
    · cases h
  · split at h
    · simp only [Option.some.injEq] at h; subst h; rfl
    · cases h
  · cases h
theorem binA_ids {b : BinOp} {t : TypeId} {lit : Bool} {x y a : AV T.U} (h : binA T P b t lit x y = some a) : a.ids = [] := by
  unfold binA at h
  split at h
  · split at h
    · cases b <;> simp only [binI, Option.some.injEq, reduceCtorEq] at h <;> subst h <;> rfl
    · cases h
  · simp only [Option.some.injEq] at h; subst h; rfl
  · simp only [Option.some.injEq] at h; subst h; rfl
  · exact eqA_ids h
  · exact eqA_ids h
  · cases h
theorem pureA_ids {op : Op} {a : AV T.U} (hs : Sim T w0 S0 ⟨F, H⟩ F' w S φ) (h : pureA T P op F = some a) : ∀ i ∈ a.ids, i < H.length := by
  unfold pureA at h
  split at h
  · exact (aev_ok hs h).1
  · exact (aev_ok hs h).1
  · split at h
    · rw [binA_ids h]; intro i hi; cases hi
    · cases h
  · split at h
    · rw [unA_ids h]; intro i hi; cases hi
    · cases h
  · split at h
    · simp only [Option.some.injEq] at h; subst h; intro i hi; cases hi
    · cases h
  · split at h
    · rename_i vs hx
      have := (aev_ok hs hx).1
      intro i hi
      exact this i (by rw [AV.ids]; exact idsL_mem (List.mem_of_getElem? h) i hi)
    · cases h
  · split at h
    · rename_i x hx
      have := (aev_ok hs hx).1
      unfold fieldA at h
      split at h
      · split at h
        · intro i hi
          exact this i (by rw [AV.ids]; exact cutA_ids h i hi)
        · cases h
      · cases h
    · cases h
  · split at h
    · rename_i x d hx hd
      have := (aev_ok hs hx).1
      split at h
      · cases h
      · simp only [Option.some.injEq] at h; subst h; intro i hi; exact this i (by rw [AV.ids] at hi; exact hi)
    · cases h
  · split at h
    · rename_i x y hx hy
      simp only [Option.some.injEq] at h; subst h
      intro i hi
      rw [AV.ids] at hi
      rcases List.mem_append.1 hi with hi | hi
      · exact aevL_ids hs hx i hi
      · exact aevL_ids hs hy i hi
    · cases h
  · split at h
    · rename_i pl z l hpl hz hl
      split at h
      · rename_i cs hcs
        simp only [Option.some.injEq] at h; subst h
        unfold zeroA at hz
        split at hz
        · simp only [Option.some.injEq] at hz; subst hz
          intro i hi
          rw [AV.ids] at hi
          exact fillA_ids hcs (by rw [ofV1_idsL]; intro i hi; cases hi) (partsA_ids hs hl) i hi
        · cases hz
      · cases h
    · cases h
  · split at h
    · rename_i x ft f m ag hx hp
      have := (aev_ok hs hx).1
      split at h
      · cases h
      · unfold moveP at h
        split at h <;> simp only [Option.some.injEq, reduceCtorEq] at h <;> subst h <;> exact this
    · cases h
  · cases h
theorem pureA_ok {op : Op} {a : AV T.U} (hs : Sim T w0 S0 ⟨F, H⟩ F' w S φ) (h : pureA T P op F = some a) (hm : (mayEp op || notEp a) = true) : okA H a := by
  rcases Bool.or_eq_true _ _ ▸ hm with hm | hm
  · cases op <;> first | cases hm | skip
    · exact aev_ok hs h
    · exact aev_ok hs h
    · unfold pureA at h
      simp only at h
      split at h
      · rename_i x ft f m ag hx hp
        have hx' := aev_ok hs hx
        split at h
        · cases h
        · unfold moveP at h
          split at h <;> simp only [Option.some.injEq, reduceCtorEq] at h <;> subst h
          · exact ⟨hx'.1, trivial⟩
          · exact hx'
          · exact ⟨hx'.1, trivial⟩
          · exact ⟨hx'.1, trivial⟩
      · cases h
  · exact okA_notEp hm (pureA_ids hs h)
theorem VR.int (kk : IntKind) (x : Int) : VR T w S φ (cI T kk x) (.int kk x) := by rw [VR]; exact CR.int _ _
theorem VR.bool (x : Bool) : VR T w S φ (cB T x) (.bool x) := by rw [VR]; exact CR.bool _
theorem val_wr {a : AV T.U} {v : Value} (hd : dec ops k n F' = some o) (hr : (execOp (evD F') o).run P w = .ok (.value v) w) (h : Sim T w0 S0 ⟨F, H⟩ F' w S φ) (hv : VR T w S φ a v) (hok : okA H a) (K : Kont P ops Q (k + 1) n ds w0 S0 (⟨updA T F o.dst a, H⟩ : St T)) : WR P ops Q k n ds F' w :=
  .val hd hr (K _ _ ⟨S, φ, h.slot hv hok⟩)
theorem pickV_rel {c : Bool} {x y z : AV T.U} (h : pickV T c x y = some z) {X Y : Value} (hx : VR T w S φ x X) (hy : VR T w S φ y Y) : VR T w S φ z (if c = true then X else Y) ∧ z.ids = [] ∧ notEp z = true := by
  unfold pickV at h
  split at h
  · split at h
    · rename_i hk
      have := kindEq_eq hk; subst this
      simp only [Option.some.injEq] at h; subst h
      have e1 := cint_rel hx; have e2 := cint_rel hy; subst e1; subst e2
      refine ⟨?_, rfl, rfl⟩
      cases c <;> exact .int _ _
    · cases h
  · simp only [Option.some.injEq] at h; subst h
    have e1 := cbool_rel hx; have e2 := cbool_rel hy; subst e1; subst e2
    refine ⟨?_, rfl, rfl⟩
    cases c <;> exact .bool _
  · cases h
theorem pick_q {Z : Prop} {R : Type} {r : R} {c x y : Operand} (hd : dec ops k n F' = some o) (hop : o.op = .pick c x y) {t : Bool} {a b : AV T.U} (hc : aev T F c = some (cB T t)) (hx : aev T F x = some a) (hy : aev T F y = some b) {K0 : AV T.U → Option R} (hK0 : pickA t a b K0 = some r)
    (h : Sim T w0 S0 ⟨F, H⟩ F' w S φ) (K : ∀ a v, K0 a = some r → QR P F' o S φ rd w v → VR T w S φ a v → okA H a → Z) : Z := by
  obtain ⟨C', h1, h2⟩ := aev_rel h.fr hc
  have e := cbool_rel h2; subst e
  obtain ⟨X, h3, h4⟩ := aev_rel h.fr hx
  obtain ⟨Y, h5, h6⟩ := aev_rel h.fr hy
  have hr : QR P F' o S φ rd w (if t = true then X else Y) := fun w1 _ _ => by simp [execOp, hop, evD_of h1, evD_of h3, evD_of h5, asBool]
  unfold pickA at hK0
  split at hK0
  · rename_i z hz
    obtain ⟨g1, g2, g3⟩ := pickV_rel hz h4 h6
    exact K _ _ hK0 hr g1 (okA_notEp g3 (by rw [g2]; intro i hi; cases hi))
  · split at hK0
    · rename_i hne
      simp only [Bool.and_eq_true] at hne
      cases t with
      | true => rw [if_pos rfl] at hK0 hr; exact K _ _ hK0 hr h4 (aev_ok h hx)
      | false => rw [if_neg (by simp)] at hK0 hr; exact K _ _ hK0 hr h6 (aev_ok h hy)
    · cases hK0
theorem iteNone {R : Type} {c : Prop} {_ : Decidable c} {x : Option R} {r : R} (h : (if c then none else x) = some r) : ¬ c ∧ x = some r := by
  split at h
  · cases h
  · rename_i hc; exact ⟨hc, h⟩
theorem div_q {Z : Prop} {R : Type} {r : R} {b : BinOp} {t ty : TypeId} {x y : Operand} (hd : dec ops k n F' = some o) (hop : o.op = .binOp b t x y ty) {a c : AV T.U} (hx : aev T F x = some a) (hy : aev T F y = some c) {K0 : AV T.U → Option R} (hK0 : divA T b a c K0 = some r)
    (h : Sim T w0 S0 ⟨F, H⟩ F' w S φ) (K : ∀ a v, K0 a = some r → QR P F' o S φ rd w v → VR T w S φ a v → okA H a → Z) : Z := by
  obtain ⟨X, h1, h2⟩ := aev_rel h.fr hx
  obtain ⟨Y, h3, h4⟩ := aev_rel h.fr hy
  have hi : ∀ (kk : IntKind) (z : Int), okA H (cI T kk z) := fun kk z => ⟨fun i hi => (by cases hi), trivial⟩
  unfold divA at hK0
  split at hK0
  · split at hK0
    · rename_i hk
      have := kindEq_eq hk; subst this
      have e1 := cint_rel h2; have e2 := cint_rel h4; subst e1; subst e2
      unfold divA.divI at hK0
      obtain ⟨hne, hK⟩ := iteNone hK0
      exact K _ _ hK (fun w1 _ _ => by simp [execOp, hop, evD_of h1, evD_of h3, eqGuard, binOp, Op.intDiv, hne]) (.int _ _) (hi _ _)
    · cases hK0
  · split at hK0
    · rename_i hk
      have := kindEq_eq hk; subst this
      have e1 := cint_rel h2; have e2 := cint_rel h4; subst e1; subst e2
      unfold divA.remI at hK0
      obtain ⟨hne, hK⟩ := iteNone hK0
      exact K _ _ hK (fun w1 _ _ => by simp [execOp, hop, evD_of h1, evD_of h3, eqGuard, binOp, Op.intDiv, hne]) (.int _ _) (hi _ _)
    · cases hK0
  · have e1 := cint_rel h2; have e2 := cint_rel h4; subst e1; subst e2
    unfold divA.shlI at hK0
    obtain ⟨hne, hK⟩ := iteNone hK0
    exact K _ _ hK (fun w1 _ _ => by simp [execOp, hop, evD_of h1, evD_of h3, eqGuard, binOp, Op.shift, hne, sShl]) (.int _ _) (hi _ _)
  · have e1 := cint_rel h2; have e2 := cint_rel h4; subst e1; subst e2
    unfold divA.shrI at hK0
    obtain ⟨hne, hK⟩ := iteNone hK0
    exact K _ _ hK (fun w1 _ _ => by simp [execOp, hop, evD_of h1, evD_of h3, eqGuard, binOp, Op.shift, hne, sShr]) (.int _ _) (hi _ _)
  · cases hK0
theorem load_aptr_q {Z : Prop} {t : TypeId} {x : Operand} (hd : dec ops k n F' = some o) (hop : o.op = .load t x) {i o1 sz n0 j c : Nat} {e : TypeId} {cs r : List (AV T.U)} {ty : Ty} {xs : List (den T.U ty)} {a : AV T.U} (hx : aev T F x = some (.aptr i o1 sz n0 j c)) (hi : H[i]? = some (.blk e cs)) (hloc : locB T cs o1 = some (.arr ty n0 xs :: r)) (hsz : szT T ty = sz) (hl : loadC T P t (cellsE T ty (xs.getD j (dflt T ty))) c = some a)
    (h : Sim T w0 S0 ⟨F, H⟩ F' w S φ) (hrd : i ∈ rd) (K : ∀ v, QR P F' o S φ rd w v → VR T w S φ a v → okA H a → Z) : Z := by
  obtain ⟨v, h1, g, h2, hj, rfl⟩ := aev_rel h.fr hx
  obtain ⟨g', cc, vals, a1, a2, a3, a4, a5, a6⟩ := arr_at (h.ents i _ hi) hloc
  rw [h2] at a1; simp only [Option.some.injEq, Addr.mk.injEq, and_true] at a1; subst a1
  subst hsz
  have hcut := a6.cut (j * szT T ty) (szT T ty)
  rw [flat_at (flat_len T ty) (getD_get (dflt T ty) (show j < xs.length by omega))] at hcut
  have hr : Rg w (some ⟨g, o1 + j * szT T ty, none⟩) ((vals.drop (j * szT T ty)).take (szT T ty)) := Rg.sub a5 _ _ _ fun _ => rfl
  exact load_rg hd hop (b := g) (o0 := o1 + j * szT T ty) (c := c) (by rw [h1, Nat.add_assoc]) (fun w1 _ hsm => Rg.same hr (show w1.heap[g]? = w.heap[g]? from hsm i hrd _ h2 a2.lt)) (CellsR.vrl hcut) (cellsE_noE _ _) (cellsE_ids _ _) hl K
theorem load_q {Z : Prop} {t : TypeId} {x : Operand} (hd : dec ops k n F' = some o) (hop : o.op = .load t x) {p a : AV T.U} (hx : aev T F x = some p) (hl : loadA T P t H p = some a) (h : Sim T w0 S0 ⟨F, H⟩ F' w S φ) (hrd : ∀ i ∈ p.ids, i ∈ rd) (K : ∀ v, QR P F' o S φ rd w v → VR T w S φ a v → okA H a → Z) : Z := by
  unfold loadA at hl
  split at hl
  · split at hl
    · rename_i e cs hi
      split at hl
      · cases hl
      · rename_i hne
        exact load_ptr_q hd hop hx hi (fun i sz kk c e => hne i sz kk c (e ▸ hl)) hl h (hrd _ (by simp [AV.ids])) K
    · cases hl
  · split at hl
    · rename_i e cs hi
      split at hl
      · rename_i b r hloc
        split at hl
        · rename_i ty n' xs hb
          have := arrI_eq hb; subst this
          split at hl
          · rename_i hm
            rw [Bool.and_eq_true] at hm
            have hm1 := Nat.eq_of_beq_eq_true hm.1; have hm2 := Nat.eq_of_beq_eq_true hm.2
            subst hm1
            exact load_aptr_q hd hop hx hi hloc hm2 hl h (hrd _ (by simp [AV.ids])) K
          · cases hl
        · cases hl
      · cases hl
    · cases hl
  · split at hl
    · rename_i e ty xs hi
      exact load_eptr_q hd hop hx hi hl h (hrd _ (by simp [AV.ids])) K
    · cases hl
  · exact load_lptr_q hd hop hx hl h K
  · cases hl
theorem store_wr {t : TypeId} {x y : Operand} (hd : dec ops k n F' = some o) (hop : o.op = .store t x y) (hdst : o.dst = none) {p a : AV T.U} {H1 : List (Ent T.U)} (hx : aev T F x = some p) (hy : aev T F y = some a) (hs : storeA T P t H p a = some H1) (h : Sim T w0 S0 ⟨F, H⟩ F' w S φ) (K : Kont P ops Q (k + 1) n ds w0 S0 (⟨F, H1⟩ : St T)) : WR P ops Q k n ds F' w := by
  unfold storeA at hs
  split at hs
  · split at hs
    · rename_i e cs hi
      split at hs
      · rename_i cs' hf
        simp only [Option.some.injEq] at hs; subst hs
        obtain ⟨X, h1, g, h2, rfl⟩ := aev_rel h.fr hx
        exact store_blk_wr hd hop hdst h1 h2 hy hi (fun vs v hb hv => storeB_rel hf hb hv) h K
      · cases hs
    · cases hs
  · rename_i i1 o1 sz1 n1 k1 c1
    split at hs
    · rename_i e cs hi
      split at hs
      · rename_i l hf hl
        split at hs
        · rename_i cs' ht
          simp only [Option.some.injEq] at hs; subst hs
          obtain ⟨X, h1, g, h2, hk1, rfl⟩ := aev_rel h.fr hx
          obtain ⟨ii, hii, f1, f2, f3, f4⟩ := fits_spec hf
          refine store_blk_wr hd hop hdst h1 h2 hy hi (fun vs v hb hv => ?_) h K
          have hcr := cellsOf_rel hl (cellsA_rel f1 hv)
          have hcl := (cellsA_rel f1 hv).len T
          obtain ⟨g1, g2, g3⟩ := BR.turn (us := v.cells.toList) (ex := []) ht hb fun l1 l2 B hf1 hB => putElem_rel hf1 hB hk1 hcr
          refine ⟨g1, fun i hi => (g3 i hi).imp id (fun h => absurd h (by simp)), fun c0 hcs => ?_⟩
          exact stv_of hf hv (c := c0) (p := o1 + (k1 * sz1 + c1)) (by rw [hcl]; omega)
        · cases hs
      · cases hs
    · cases hs
  · split at hs
    · rename_i e ty xs hi
      split at hs
      · rename_i hf hl
        split at hs
        · rename_i y' hy'
          simp only [Option.some.injEq] at hs; subst hs
          exact store_eptr_wr hd hop hdst hx hy hi hf hl hy' h K
        · cases hs
      · cases hs
    · cases hs
  · cases hs
end
end Go.X
