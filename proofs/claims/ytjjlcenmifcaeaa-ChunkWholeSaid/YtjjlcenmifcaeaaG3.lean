/- Texts put together. -/
import Derived.Test.YtjjlcenmifcaeaaDf
import Derived.Test.YtjjlcenmifcaeaaG1
import Derived.MapKept
/- A region that draws its order, in which each operation may be done in any order that its edges let: one obligation an operation. Nothing here is about one program. -/
namespace Go.V
open Go.RowKit
section
variable {P : Program} {ops : Array Oper} {Q : Exit → Act → World → Prop} {n : Nat} {ds : List Deferred} {F : PF} {w : World}

theorem WR.pass1 {k : Nat} {dst : Option Tmp} (h : passDst ops k n F = some dst) (K : WR P ops Q (k + 1) n ds (upd F dst undef) w) : WR P ops Q k n ds F w := by
  unfold passDst at h
  split at h
  · rename_i o ho
    split at h
    · rename_i hw
      split at h
      · rename_i hd
        simp only [Option.some.injEq] at h
        subst h
        intro a ha
        rw [drop_of_get ho]
        unfold wpList
        rw [if_neg (by rw [wants_spec ha hw]; simp)]
        exact K _ (ha.upd hd undef)
      · cases h
    · cases h
  · cases h
/-- the operations that this one waits for. -/
def dpreds (ops : Array Oper) (i : Nat) : List Nat := match ops[i]? with | some o => (o.after.toList.filter fun e => Region.binds .any e).map (·.on) | none => []
/-- From m on each operation waits for all ahead of it. -/
def uniN (acc : List Nat) : List Nat → List Nat | [] => acc | x :: r => uniN (match acc.contains x with | true => acc | false => x :: acc) r
def cloN (ops : Array Oper) : Nat → List (List Nat)
  | 0 => []
  | n + 1 => cloN ops n ++ [uniN [] (dpreds ops n ++ (dpreds ops n).flatMap fun k => (cloN ops n).getD k [])]
def dsts (ops : Array Oper) (m : Nat) : List Nat := (List.range m).filterMap fun i => (ops[i]?).bind (·.dst)
def distinct : List Nat → Bool | [] => true | a :: r => !r.contains a && distinct r

/-- Edges and guards lead back. -/
def edgesBack (ops : Array Oper) : Bool := (List.range ops.size).all fun i => (dpreds ops i).all fun j => Nat.blt j i
def guardsBack (ops : Array Oper) (m : Nat) : Bool := (List.range m).all fun i => match ops[i]? with | some o => (match o.guard with | some (g, _) => Nat.blt g i | none => true) | none => true
def dstOf (ops : Array Oper) (i : Nat) : Option Tmp := (ops[i]?).bind (·.dst)
/-- operation i comes behind operation j, by itself or through others. -/
inductive Tp (ops : Array Oper) : Nat → Nat → Prop
  | one {i j : Nat} (h : (dpreds ops i).contains j = true) : Tp ops i j
  | step {i k j : Nat} (h : (dpreds ops i).contains k = true) (t : Tp ops k j) : Tp ops i j
theorem uniN_mem {x : Nat} : ∀ {l acc : List Nat}, x ∈ uniN acc l → x ∈ acc ∨ x ∈ l
  | [], _, h => .inl h
  | y :: r, acc, h => by
    unfold uniN at h
    rcases uniN_mem h with h | h
    · split at h
      · exact .inl h
      · rcases List.mem_cons.1 h with rfl | h
        · exact .inr (List.mem_cons_self ..)
        · exact .inl h
    · exact .inr (List.mem_cons_of_mem _ h)
theorem cloN_len (ops : Array Oper) : ∀ n, (cloN ops n).length = n
  | 0 => rfl
  | n + 1 => by rw [cloN, List.length_append, cloN_len ops n]; rfl
theorem tp_of_clo : ∀ (n j i : Nat), i ∈ (cloN ops n).getD j [] → Tp ops j i
  | 0, j, i, h => by simp [cloN] at h
  | n + 1, j, i, h => by
    rw [cloN, List.getD_eq_getElem?_getD] at h
    rcases Nat.lt_trichotomy j n with hj | rfl | hj
    · rw [List.getElem?_append_left (by rw [cloN_len]; exact hj), ← List.getD_eq_getElem?_getD] at h
      exact tp_of_clo n j i h
    · rw [List.getElem?_append_right (by rw [cloN_len]; exact Nat.le_refl _), cloN_len, Nat.sub_self] at h
      simp only [List.getElem?_cons_zero, Option.getD_some] at h
      rcases uniN_mem h with h | h
      · cases h
      · rcases List.mem_append.1 h with h | h
        · exact .one (by simpa using h)
        · obtain ⟨k, hk, h⟩ := List.mem_flatMap.1 h
          exact .step (by simpa using hk) (tp_of_clo j k i h)
    · rw [List.getElem?_eq_none (by simp [cloN_len]; omega)] at h
      simp at h
theorem Tp.lt (hb : edgesBack ops = true) {i j : Nat} (t : Tp ops i j) (hi : i < ops.size) : j < i := by
  have one : ∀ a b, a < ops.size → (dpreds ops a).contains b = true → b < a := by
    intro a b ha h
    unfold edgesBack at hb
    rw [List.all_eq_true] at hb
    have := hb a (List.mem_range.2 ha)
    rw [List.all_eq_true] at this
    simpa [Nat.blt_eq] using this b (by simpa using h)
  induction t with
  | one h => exact one _ _ hi h
  | step h _ ih => have h1 := one _ _ hi h; have := ih (by omega); omega
theorem wpAny_inv {md : Region.Mode} (I : Array Bool → Act → World → Prop)
    (step : ∀ listed a w i, I listed a w → i ∈ Region.ready md ops listed → wpOp P ops Q i (I (listed.setIfInBounds i true)) a w)
    (fin : ∀ listed a w, I listed a w → Region.ready md ops listed = [] → Q .normal a w) :
    ∀ (fuel : Nat) (listed : Array Bool) (a : Act) (w : World), (listed.size = ops.size ∧ (listed.toList.filter (· == false)).length ≤ fuel) → I listed a w → wpAny P md ops Q fuel listed a w
  | 0, listed, a, w, hl, hI => by
    have hr : Region.ready md ops listed = [] := by
      unfold Region.ready
      rw [List.filter_eq_nil_iff]
      intro i hi
      have hlt : i < listed.size := by rw [hl.1]; simpa using hi
      have : listed[i] = true := by
        cases hb : listed[i] with
        | true => rfl
        | false =>
          have : listed[i] ∈ listed.toList.filter (· == false) := by
            rw [List.mem_filter]; exact ⟨by simp, by simp [hb]⟩
          have h0 := List.length_pos_of_mem this
          omega
      simp [this, hlt]
    exact ⟨hr, fin listed a w hI hr⟩
  | fuel + 1, listed, a, w, hl, hI => by
    refine ⟨fun hr => fin listed a w hI hr, fun i hi => wpOp_mono (fun a' w' hI' => wpAny_inv I step fin fuel _ a' w' ?_ hI') (step listed a w i hI hi)⟩
    have hmem : i < ops.size ∧ listed.getD i true = false := by
      unfold Region.ready at hi
      rw [List.mem_filter] at hi
      refine ⟨by simpa using hi.1, ?_⟩
      have := hi.2
      rw [Bool.and_eq_true] at this
      simpa using this.1
    refine ⟨by simpa using hl.1, ?_⟩
    have hlt : i < listed.size := by rw [hl.1]; exact hmem.1
    have hfalse : listed[i] = false := by
      have := hmem.2
      simpa [hlt] using this
    have key : ∀ (l : List Bool) (i : Nat) (h : i < l.length), l[i] = false → ((l.set i true).filter (· == false)).length + 1 = (l.filter (· == false)).length := by
      intro l
      induction l with
      | nil => intro i h; simp at h
      | cons b r ih =>
        intro i h hb
        cases i with
        | zero => simp at hb; subst hb; simp
        | succ i =>
          have := ih i (by simpa using h) (by simpa using hb)
          cases b <;> simp_all <;> omega
    have := key listed.toList i (by simpa using hlt) (by simpa using hfalse)
    have e : (listed.setIfInBounds i true).toList = listed.toList.set i true := by simp
    rw [e]; omega

/-! ### The same, where each operation is looked at in one frame: what is fixed is known from the first on -/
def opTmps (o : Oper) : List Nat := o.op.operands.toList.filterMap fun x => match x with | .tmp t => some t | _ => none
def guardTmp (ops : Array Oper) (o : Oper) : List Nat := match o.guard with | some (g, _) => (dstOf ops g).toList | none => []
theorem distinct_uniq {m : Nat} (h : distinct (dsts ops m) = true) : ∀ i j d, i < m → j < m → (ops[i]?).bind (·.dst) = some d → (ops[j]?).bind (·.dst) = some d → i = j := by
  have key : ∀ (l : List Nat), distinct (l.filterMap fun i => (ops[i]?).bind (·.dst)) = true → l.Nodup → ∀ i j d, i ∈ l → j ∈ l → (ops[i]?).bind (·.dst) = some d → (ops[j]?).bind (·.dst) = some d → i = j := by
    intro l
    induction l with
    | nil => intro _ _ i j d hi; simp at hi
    | cons x r ih =>
      intro hdi hn i j d hi hj h1 h2
      rw [List.nodup_cons] at hn
      have hmem : ∀ y e, y ∈ r → (ops[y]?).bind (·.dst) = some e → e ∈ r.filterMap fun i => (ops[i]?).bind (·.dst) := fun y e hy he => List.mem_filterMap.2 ⟨y, hy, he⟩
      have hrest : distinct (r.filterMap fun i => (ops[i]?).bind (·.dst)) = true := by
        rw [List.filterMap_cons] at hdi
        split at hdi
        · exact hdi
        · simp only [distinct, Bool.and_eq_true] at hdi; exact hdi.2
      have hfirst : ∀ e, (ops[x]?).bind (·.dst) = some e → e ∉ r.filterMap fun i => (ops[i]?).bind (·.dst) := by
        intro e hx hm
        rw [List.filterMap_cons] at hdi
        split at hdi
        · rename_i hn0; rw [hx] at hn0; cases hn0
        · rename_i e' he'
          rw [hx] at he'
          cases he'
          simp only [distinct, Bool.and_eq_true, Bool.not_eq_true', List.contains_eq_mem, decide_eq_false_iff_not] at hdi
          exact hdi.1 hm
      rcases List.mem_cons.1 hi with rfl | hi'
      · rcases List.mem_cons.1 hj with rfl | hj'
        · rfl
        · exact absurd (hmem j d hj' h2) (hfirst d h1)
      · rcases List.mem_cons.1 hj with rfl | hj'
        · exact absurd (hmem i d hi' h1) (hfirst d h2)
        · exact ih hrest hn.2 i j d hi' hj' h1 h2
  intro i j d hi hj
  exact key (List.range m) h List.nodup_range i j d (List.mem_range.2 hi) (List.mem_range.2 hj)
end
end Go.V

/- What a function computes, as a tree of tests and calls; values that come of two integers; structs held against each other; maps whose keys are written out. Nothing here is about one program. -/
namespace Go.V
open Go.RowKit

/-! ### Integers of a kind -/
/-! ### A tree of tests -/
def letF {α β : Type} (a : α) (f : α → β) : β := f a
def optF {α β : Type} (o : Option α) (n : β) (f : α → β) : β := match o with | some x => f x | none => n
@[simp] theorem letF_def {α β : Type} (a : α) (f : α → β) : letF a f = f a := rfl
@[simp] theorem optF_none {α β : Type} (n : β) (f : α → β) : optF none n f = n := rfl
@[simp] theorem optF_some {α β : Type} (a : α) (n : β) (f : α → β) : optF (some a) n f = f a := rfl
/-! ### Calls that tell, or panic -/
section
variable {P : Program} {w w' : World} {α : Type} {f : FuncId} {args : Array Value}
end

/-! ### What is made of two integers -/
def bAnd (k : IntKind) (x y : Int) : Int := k.wrap ((BitVec.ofInt k.bits x &&& BitVec.ofInt k.bits y).toNat : Int)
def bOr (k : IntKind) (x y : Int) : Int := k.wrap ((BitVec.ofInt k.bits x ||| BitVec.ofInt k.bits y).toNat : Int)
def bXor (k : IntKind) (x y : Int) : Int := k.wrap ((BitVec.ofInt k.bits x ^^^ BitVec.ofInt k.bits y).toNat : Int)
def bAndNot (k : IntKind) (x y : Int) : Int := k.wrap ((BitVec.ofInt k.bits x &&& ~~~BitVec.ofInt k.bits y).toNat : Int)
def sShl (k : IntKind) (x y : Int) : Int := k.wrap (x * 2 ^ (min y.toNat k.bits))
def sShr (k : IntKind) (x y : Int) : Int := x.fdiv (2 ^ (min y.toNat k.bits))
def gMin (x y : Int) : Int := if y < x then y else x
def gMax (x y : Int) : Int := if y > x then y else x
section
variable {P : Program} {ops : Array Oper} {k n : Nat} {F : PF} {dst : Option Tmp}
end

/-! ### Structs held against each other -/
section
variable {P : Program}
def partV (P : Program) (t : TypeId) (cs : Array Value) (off : Nat) : Option Value :=
  match P.underlying t with
  | some d => (match aggD d with | true => (match P.info? t with | some i => some (.agg (cs.extract off (off + i.size))) | none => none) | false => cs[off]?)
  | none => none
theorem partV_run {t : TypeId} {cs : Array Value} {off : Nat} {v : Value} (h : partV P t cs off = some v) (w : World) : (part t cs off).run P w = .ok v w := by
  unfold partV at h
  split at h
  · rename_i d hd
    unfold part
    rw [Sem.run_bind, run_isAgg_of hd]
    split at h
    · rename_i ha
      rw [ha]
      split at h
      · rename_i i hi
        simp only [Option.some.injEq] at h
        subst h
        simp [sizeOf, typeInfo, hi]
      · cases h
    · rename_i ha
      rw [ha]
      simp [h]
  · cases h
def eqFs (P : Program) (rec : TypeId → Value → Value → Option Bool) (xs ys : Array Value) : List Field → Option Bool
  | [] => some true
  | [f] => match f.name == "_" with | true => some true | false => (match partV P f.type xs f.offset, partV P f.type ys f.offset with | some a, some b => rec f.type a b | _, _ => none)
  | f :: g :: r => match f.name == "_" with | true => eqFs P rec xs ys (g :: r) | false => (match partV P f.type xs f.offset, partV P f.type ys f.offset with | some a, some b => (match rec f.type a b, eqFs P rec xs ys (g :: r) with | some p, some q => some (p && q) | _, _ => none) | _, _ => none)
def eqB (P : Program) : Nat → TypeId → Value → Value → Option Bool
  | 0, _, _, _ => none
  | d + 1, t, x, y =>
    match P.underlying t, x, y with
    | some .bool, .bool a, .bool b => some (a == b)
    | some (.int _), .int j a, .int j' b => match decide (j = j') with | true => some (a == b) | false => none
    | some .string, .string a, .string b => some (a == b)
    | some (.struct fs), .agg xs, .agg ys => match P.stoodInHeld t with | true => none | false => eqFs P (eqB P d) xs ys fs.toList
    | _, _, _ => none
def eqBody (d : Nat) (xs ys : Array Value) (f : Field) : Sem (ForInStep (Option Bool × Unit)) :=
  if f.name ≠ "_" then do
    let a ← part f.type xs f.offset
    let b ← part f.type ys f.offset
    let r ← Op.equalIn d f.type a b
    if (!r) = true then pure (ForInStep.done (some false, ())) else pure (ForInStep.yield (none, ()))
  else pure (ForInStep.yield (none, ()))
theorem eqFs_run {xs ys : Array Value} {d : Nat} (hrec : ∀ (t : TypeId) (x y : Value) (b : Bool), eqB P d t x y = some b → ∀ w : World, (Op.equalIn d t x y).run P w = .ok b w) :
    ∀ (fs : List Field) (b : Bool), eqFs P (eqB P d) xs ys fs = some b → ∀ w : World,
    (forIn (m := Sem) fs ((none, ()) : Option Bool × Unit) (fun f _ => eqBody d xs ys f)).run P w = .ok (if b then (none, ()) else (some false, ())) w
  | [], b, h, w => by
    simp only [eqFs, Option.some.injEq] at h
    subst h; rfl
  | f :: r, b, h, w => by
    have one : ∀ (c : Bool), f.name ≠ "_" → (match partV P f.type xs f.offset, partV P f.type ys f.offset with | some a, some b => eqB P d f.type a b | _, _ => none) = some c →
        (eqBody d xs ys f).run P w = .ok (if c then ForInStep.yield (none, ()) else ForInStep.done (some false, ())) w := by
      intro c hn hc
      split at hc
      · rename_i x y hx hy
        unfold eqBody
        rw [if_pos hn, Sem.run_bind, partV_run hx]
        simp only [Result.andThen_ok]
        rw [Sem.run_bind, partV_run hy]
        simp only [Result.andThen_ok]
        rw [Sem.run_bind, hrec _ _ _ _ hc]
        cases c <;> rfl
      · cases hc
    have skip : f.name = "_" → (eqBody d xs ys f).run P w = .ok (ForInStep.yield (none, ())) w := by
      intro hn
      unfold eqBody
      rw [if_neg (by simpa using hn)]; rfl
    rw [List.forIn_cons]
    match r, h with
    | [], h =>
      unfold eqFs at h
      split at h
      · rename_i hn
        simp only [Option.some.injEq] at h
        subst h
        rw [Sem.run_bind, skip (by simpa using hn)]; rfl
      · rename_i hn
        rw [Sem.run_bind, one b (by simpa using hn) h]
        cases b <;> rfl
    | g :: r, h =>
      unfold eqFs at h
      split at h
      · rename_i hn
        rw [Sem.run_bind, skip (by simpa using hn)]
        exact eqFs_run hrec (g :: r) b h w
      · rename_i hn
        have hn' : f.name ≠ "_" := by simpa using hn
        split at h
        · rename_i x y hx hy
          split at h
          · rename_i p q hp hq
            simp only [Option.some.injEq] at h
            subst h
            rw [Sem.run_bind, one p hn' (by rw [hx, hy]; exact hp)]
            cases p
            · rfl
            · exact eqFs_run hrec (g :: r) q hq w
          · cases h
        · cases h
theorem eqB_run : ∀ (d : Nat) (t : TypeId) (x y : Value) (b : Bool), eqB P d t x y = some b → ∀ w : World, (Op.equalIn d t x y).run P w = .ok b w
  | 0, _, _, _, _, h, _ => by simp [eqB] at h
  | d + 1, t, x, y, b, h, w => by
    unfold eqB at h
    unfold Op.equalIn
    split at h
    · rename_i a c ht
      simp only [Option.some.injEq] at h
      subst h
      simp [underlying, ht]
    · rename_i kk j a j' c ht
      split at h
      · rename_i hj
        simp only [Option.some.injEq] at h
        subst h
        have : j = j' := by simpa using hj
        subst this
        simp [underlying, ht]
      · cases h
    · rename_i a c ht
      simp only [Option.some.injEq] at h
      subst h
      simp [underlying, ht]
    · rename_i fs xs ys ht
      split at h
      · cases h
      · rename_i hst
        have hu : (underlying t).run P w = .ok (.struct fs) w := by simp [underlying, ht]
        rw [Sem.run_bind, hu]
        simp only [Result.andThen_ok]
        have hp : (program).run P w = .ok P w := rfl
        rw [Sem.run_bind, hp]
        simp only [Result.andThen_ok, hst]
        have key := eqFs_run (P := P) (d := d) (xs := xs) (ys := ys) (eqB_run d) fs.toList b h w
        rw [← Array.forIn_toList]
        simp only [Bool.false_eq_true, if_false]
        rw [Sem.run_bind]
        unfold eqBody at key
        rw [key]
        cases b <;> rfl
    · cases h
end
end Go.V

/- Maps that are known whole; arrays and texts read at a place. Nothing here is about one program. -/
namespace Go.V
open Go.RowKit

/-- Block g is a map with just these entries. -/
def Mp (w : World) (g : Nat) (es : Array MapEntry) (c : Nat) : Prop := w.heap[g]? = some (.map es c)
theorem Mp.lt {w : World} {g : Nat} {es : Array MapEntry} {c : Nat} (h : Mp w g es c) : g < w.heap.size := (Array.getElem?_eq_some_iff.1 h).1
theorem Mp.chg {S : List Nat} {w w' : World} {g : Nat} {es : Array MapEntry} {c : Nat} (h : Mp w g es c) (hc : Chg S w w') (hg : g ∉ S) : Mp w' g es c := (hc.block g h.lt hg).trans h
structure NewM (w w' : World) (g : Nat) (es : Array MapEntry) (c : Nat) : Prop where
  blk : Mp w' g es c
  chg : Chg [] w w'
  fresh : w.heap.size ≤ g

def mapInfo (P : Program) (t : TypeId) : Option (TypeId × TypeId × TypeDesc) :=
  match P.underlying t with
  | some (.map kt et) => (match P.underlying kt with | some d => some (kt, et, d) | none => none)
  | _ => none
theorem mapInfo_spec {P : Program} {t kt et : TypeId} {d : TypeDesc} (h : mapInfo P t = some (kt, et, d)) : P.underlying t = some (.map kt et) ∧ P.underlying kt = some d := by
  unfold mapInfo at h
  split at h
  · rename_i kt' et' hu
    split at h
    · rename_i d' hd
      simp only [Option.some.injEq, Prod.mk.injEq] at h
      obtain ⟨rfl, rfl, rfl⟩ := h
      exact ⟨hu, hd⟩
    · cases h
  · cases h

section
variable {P : Program} {ops : Array Oper} {Q : Exit → Act → World → Prop} {k n : Nat} {ds : List Deferred} {F : PF} {w : World}
def decMkMap (ops : Array Oper) (k n : Nat) (F : PF) : Option (Option Tmp × TypeId) :=
  match dec ops k n F with | some ⟨dst, .makeMap t none, _, _, _, _⟩ => some (dst, t) | _ => none
theorem WR.mkMap {dst : Option Tmp} {t : TypeId} (hd : decMkMap ops k n F = some (dst, t))
    (K : ∀ g w', NewM w w' g #[] 0 → WR P ops Q (k + 1) n ds (upd F dst (.map (some g))) w') : WR P ops Q k n ds F w := by
  unfold decMkMap at hd
  split at hd
  · rename_i d t' ty pos af gd hdec
    simp only [Option.some.injEq, Prod.mk.injEq] at hd
    obtain ⟨rfl, rfl⟩ := hd
    refine .val hdec (v := .map (some w.heap.size)) (w' := w.alloc (.map #[] 0)) ?_ (K _ _ ⟨(MapKept.heap_alloc w _).1, Chg.alloc w _, Nat.le_refl _⟩)
    simp [execOp, Instr.makeMap]
  · cases hd
def decLookup (ops : Array Oper) (k n : Nat) (F : PF) : Option (Option Tmp × TypeId × Value × Value × Bool) :=
  match dec ops k n F with | some ⟨dst, .lookup t m x co, _, _, _, _⟩ => some (dst, t, evD F m, evD F x, co) | _ => none
def lkV (z : Value) : Bool → Option (Nat × Value) → Value
  | true, some (_, v) => .tuple #[v, .bool true]
  | true, none => .tuple #[z, .bool false]
  | false, some (_, v) => v
  | false, none => z
theorem run_lookup {dst : Option Tmp} {t kt et : TypeId} {d : TypeDesc} {g c : Nat} {es : Array MapEntry} {x z : Value} {co : Bool} (hm : Mp w g es c) (hd : decLookup ops k n F = some (dst, t, .map (some g), x, co)) (hi : mapInfo P t = some (kt, et, d)) (hk : MapKept.IsKey d x)
    (r : Option (Nat × Value)) (hf : Instr.findNow d x es.toList 0 = some r) (hz : (P.info? et).bind (·.zero) = some z) (v : Value) (hv : lkV z co r = v) : decRun P ops k n F w = some (dst, .ok (.value v) w) := by
  obtain ⟨hu, hkd⟩ := mapInfo_spec hi
  subst hv
  unfold decLookup at hd
  split at hd
  · rename_i d' t' m' x' co' ty pos af gd hdec
    simp only [Option.some.injEq, Prod.mk.injEq] at hd
    obtain ⟨rfl, rfl, h1, h2, rfl⟩ := hd
    unfold decRun
    rw [hdec]
    have hb : w.heap[g]? = some (.map es c) := hm
    have hzr : (zeroValue et).run P w = .ok z w := by
      cases hin : P.info? et with
      | none => rw [hin] at hz; cases hz
      | some i => rw [hin] at hz; simp at hz; simp [zeroValue, typeInfo, hin, hz]
    cases r with
    | none => cases co' <;> simp [execOp, h1, h2, Instr.lookup, run_underlying hu, MapKept.run_getObj_map hb, MapKept.run_checkKey hkd hk, MapKept.run_findKey hkd hf, Result.andThen, hzr, lkV]
    | some jv => obtain ⟨j, v⟩ := jv; cases co' <;> simp [execOp, h1, h2, Instr.lookup, run_underlying hu, MapKept.run_getObj_map hb, MapKept.run_checkKey hkd hk, MapKept.run_findKey hkd hf, Result.andThen, lkV]
  · cases hd
end
end Go.V
