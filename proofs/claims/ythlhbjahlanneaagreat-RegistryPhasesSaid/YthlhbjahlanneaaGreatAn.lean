/- A region that draws its order, in which each operation may be done in any order that its edges let: one obligation an operation. Nothing here is about one program. -/
import Derived.Test.YthlhbjahlanneaaGreatDf
import Derived.Test.YthlhbjahlanneaaGreatSl
namespace Go.V
open Go.RowKit
section
variable {P : Program} {ops : Array Oper} {Q : Exit → Act → World → Prop} {n : Nat} {ds : List Deferred} {F : PF} {w : World}

theorem WR.pass1 {k : Nat} {dst : Option Tmp} (h : passDst ops k n F = some dst) (K : WR P ops Q (k + 1) n ds (upd F dst undef) w) : WR P ops Q k n ds F w := by
  unfold passDst at h
  split at h
  · rename_i o ho
    split at h
    · rename_i hw
      split at h
      · rename_i hd
        simp only [Option.some.injEq] at h
        subst h
        intro a ha
        rw [drop_of_get ho]
        unfold wpList
        rw [if_neg (by rw [wants_spec ha hw]; simp)]
        exact K _ (ha.upd hd undef)
      · cases h
    · cases h
  · cases h
/-- the operations that this one waits for. -/
def dpreds (ops : Array Oper) (i : Nat) : List Nat := match ops[i]? with | some o => (o.after.toList.filter fun e => Region.binds .any e).map (·.on) | none => []
/-- From m on each operation waits for all ahead of it. -/
def uniN (acc : List Nat) : List Nat → List Nat | [] => acc | x :: r => uniN (match acc.contains x with | true => acc | false => x :: acc) r
def cloN (ops : Array Oper) : Nat → List (List Nat)
  | 0 => []
  | n + 1 => cloN ops n ++ [uniN [] (dpreds ops n ++ (dpreds ops n).flatMap fun k => (cloN ops n).getD k [])]
def sufOk (ops : Array Oper) (m : Nat) : Bool := (List.range' m (ops.size - m)).all fun j => (List.range j).all fun i => ((cloN ops ops.size).getD j []).contains i
/-- what the first m operations write. -/
def dstL (ops : Array Oper) (u : Nat → Value) : Nat → Nat → PF
  | _, 0 => []
  | i, m + 1 => match (ops[i]?).bind (·.dst) with | some d => (d, u i) :: dstL ops u (i + 1) m | none => dstL ops u (i + 1) m
def dsts (ops : Array Oper) (m : Nat) : List Nat := (List.range m).filterMap fun i => (ops[i]?).bind (·.dst)
def distinct : List Nat → Bool | [] => true | a :: r => !r.contains a && distinct r

/-- Edges and guards lead back. -/
def edgesBack (ops : Array Oper) : Bool := (List.range ops.size).all fun i => (dpreds ops i).all fun j => Nat.blt j i
def guardsBack (ops : Array Oper) (m : Nat) : Bool := (List.range m).all fun i => match ops[i]? with | some o => (match o.guard with | some (g, _) => Nat.blt g i | none => true) | none => true
/-- One operation's end: it leaves v, of which R holds, and nothing that was there has turned. -/
def Nd (Q : Exit → Act → World → Prop) (n : Nat) (ds : List Deferred) (S : List Nat) (F : PF) (dst : Option Tmp) (w : World) (R : Value → World → Prop) : Exit → Act → World → Prop
  | .normal, a, w' => Chg S w w' ∧ ∃ v, Fr n ds (upd F dst v) a ∧ R v w'
  | e, a, w' => Q e a w'
def dstOf (ops : Array Oper) (i : Nat) : Option Tmp := (ops[i]?).bind (·.dst)
/-- operation i comes behind operation j, by itself or through others. -/
inductive Tp (ops : Array Oper) : Nat → Nat → Prop
  | one {i j : Nat} (h : (dpreds ops i).contains j = true) : Tp ops i j
  | step {i k j : Nat} (h : (dpreds ops i).contains k = true) (t : Tp ops k j) : Tp ops i j
theorem uniN_mem {x : Nat} : ∀ {l acc : List Nat}, x ∈ uniN acc l → x ∈ acc ∨ x ∈ l
  | [], _, h => .inl h
  | y :: r, acc, h => by
    unfold uniN at h
    rcases uniN_mem h with h | h
    · split at h
      · exact .inl h
      · rcases List.mem_cons.1 h with rfl | h
        · exact .inr (List.mem_cons_self ..)
        · exact .inl h
    · exact .inr (List.mem_cons_of_mem _ h)
theorem cloN_len (ops : Array Oper) : ∀ n, (cloN ops n).length = n
  | 0 => rfl
  | n + 1 => by rw [cloN, List.length_append, cloN_len ops n]; rfl
theorem tp_of_clo : ∀ (n j i : Nat), i ∈ (cloN ops n).getD j [] → Tp ops j i
  | 0, j, i, h => by simp [cloN] at h
  | n + 1, j, i, h => by
    rw [cloN, List.getD_eq_getElem?_getD] at h
    rcases Nat.lt_trichotomy j n with hj | rfl | hj
    · rw [List.getElem?_append_left (by rw [cloN_len]; exact hj), ← List.getD_eq_getElem?_getD] at h
      exact tp_of_clo n j i h
    · rw [List.getElem?_append_right (by rw [cloN_len]; exact Nat.le_refl _), cloN_len, Nat.sub_self] at h
      simp only [List.getElem?_cons_zero, Option.getD_some] at h
      rcases uniN_mem h with h | h
      · cases h
      · rcases List.mem_append.1 h with h | h
        · exact .one (by simpa using h)
        · obtain ⟨k, hk, h⟩ := List.mem_flatMap.1 h
          exact .step (by simpa using hk) (tp_of_clo j k i h)
    · rw [List.getElem?_eq_none (by simp [cloN_len]; omega)] at h
      simp at h
theorem Tp.lt (hb : edgesBack ops = true) {i j : Nat} (t : Tp ops i j) (hi : i < ops.size) : j < i := by
  have one : ∀ a b, a < ops.size → (dpreds ops a).contains b = true → b < a := by
    intro a b ha h
    unfold edgesBack at hb
    rw [List.all_eq_true] at hb
    have := hb a (List.mem_range.2 ha)
    rw [List.all_eq_true] at this
    simpa [Nat.blt_eq] using this b (by simpa using h)
  induction t with
  | one h => exact one _ _ hi h
  | step h _ ih => have h1 := one _ _ hi h; have := ih (by omega); omega
/-- a part of a value. -/
def prj : Option Nat → Value → Value
  | none, v => v
  | some c, .tuple a => a.getD c undef
  | some _, _ => undef
/-- the blocks that operation i changes. -/
def cL (CL : List (Nat × Nat)) (i : Nat) : List Nat := (CL.filter fun p => p.1 == i).map (·.2)
/-- what is asked of operation i. -/
def Ob (P : Program) (ops : Array Oper) (Q : Exit → Act → World → Prop) (n : Nat) (ds : List Deferred) (m : Nat) (B : PF) (W : World → Prop) (R : Nat → Value → World → Prop) (E : Nat → World → Value → Prop) (AL : List (Nat × Nat × Option Nat)) (CL : List (Nat × Nat)) (Pr : Nat → World → Prop) (i : Nat) : Prop :=
  ∀ (u : Nat → Value) (w : World), W w → (∀ j, j = i ∨ Tp ops j i → Pr j w) → (∀ j, Tp ops i j → R j (u j) w) → (∀ p ∈ AL, Tp ops i p.1 → u p.1 = prj p.2.2 (u p.2.1)) → WR P (ops.extract 0 (i + 1)) (Nd Q n ds (cL CL i) (dstL ops u 0 m ++ B) (dstOf ops i) w (fun v w' => (E i w v ∧ ∀ p ∈ AL, p.1 = i → v = prj p.2.2 (u p.2.1)) ∧ R i v w')) i n ds (dstL ops u 0 m ++ B) w
def Obs (P : Program) (ops : Array Oper) (Q : Exit → Act → World → Prop) (n : Nat) (ds : List Deferred) (m : Nat) (B : PF) (W : World → Prop) (R : Nat → Value → World → Prop) (E : Nat → World → Value → Prop) (AL : List (Nat × Nat × Option Nat)) (CL : List (Nat × Nat)) (Pr : Nat → World → Prop) : Nat → Nat → Prop
  | _, 0 => True
  | i, f + 1 => Ob P ops Q n ds m B W R E AL CL Pr i ∧ Obs P ops Q n ds m B W R E AL CL Pr (i + 1) f
theorem wpAny_inv {md : Region.Mode} (I : Array Bool → Act → World → Prop)
    (step : ∀ listed a w i, I listed a w → i ∈ Region.ready md ops listed → wpOp P ops Q i (I (listed.setIfInBounds i true)) a w)
    (fin : ∀ listed a w, I listed a w → Region.ready md ops listed = [] → Q .normal a w) :
    ∀ (fuel : Nat) (listed : Array Bool) (a : Act) (w : World), (listed.size = ops.size ∧ (listed.toList.filter (· == false)).length ≤ fuel) → I listed a w → wpAny P md ops Q fuel listed a w
  | 0, listed, a, w, hl, hI => by
    have hr : Region.ready md ops listed = [] := by
      unfold Region.ready
      rw [List.filter_eq_nil_iff]
      intro i hi
      have hlt : i < listed.size := by rw [hl.1]; simpa using hi
      have : listed[i] = true := by
        cases hb : listed[i] with
        | true => rfl
        | false =>
          have : listed[i] ∈ listed.toList.filter (· == false) := by
            rw [List.mem_filter]; exact ⟨by simp, by simp [hb]⟩
          have h0 := List.length_pos_of_mem this
          omega
      simp [this, hlt]
    exact ⟨hr, fin listed a w hI hr⟩
  | fuel + 1, listed, a, w, hl, hI => by
    refine ⟨fun hr => fin listed a w hI hr, fun i hi => wpOp_mono (fun a' w' hI' => wpAny_inv I step fin fuel _ a' w' ?_ hI') (step listed a w i hI hi)⟩
    have hmem : i < ops.size ∧ listed.getD i true = false := by
      unfold Region.ready at hi
      rw [List.mem_filter] at hi
      refine ⟨by simpa using hi.1, ?_⟩
      have := hi.2
      rw [Bool.and_eq_true] at this
      simpa using this.1
    refine ⟨by simpa using hl.1, ?_⟩
    have hlt : i < listed.size := by rw [hl.1]; exact hmem.1
    have hfalse : listed[i] = false := by
      have := hmem.2
      simpa [hlt] using this
    have key : ∀ (l : List Bool) (i : Nat) (h : i < l.length), l[i] = false → ((l.set i true).filter (· == false)).length + 1 = (l.filter (· == false)).length := by
      intro l
      induction l with
      | nil => intro i h; simp at h
      | cons b r ih =>
        intro i h hb
        cases i with
        | zero => simp at hb; subst hb; simp
        | succ i =>
          have := ih i (by simpa using h) (by simpa using hb)
          cases b <;> simp_all <;> omega
    have := key listed.toList i (by simpa using hlt) (by simpa using hfalse)
    have e : (listed.setIfInBounds i true).toList = listed.toList.set i true := by simp
    rw [e]; omega

/-- the address of what is new. -/
def adL : List Value → Option Addr | .slice ad _ _ :: _ => ad | _ :: r => adL r | [] => none
def adOf : Value → Option Addr | .slice ad _ _ => ad | .pointer a => a | .tuple a => adL a.toList | _ => none
/-! ### The same, where each operation is looked at in one frame: what is fixed is known from the first on -/
/-- One operation's end, which is no panic. -/
def NdG (n : Nat) (ds : List Deferred) (S : List Nat) (F : PF) (dst : Option Tmp) (w : World) (R : Value → World → Prop) : Exit → Act → World → Prop
  | .normal, a, w' => Chg S w w' ∧ ∃ v, Fr n ds (upd F dst v) a ∧ R v w'
  | _, _, _ => False
/-- what each operation leaves, where it is fixed. -/
def fxU (fx : List (Option Value)) (u : Nat → Value) (j : Nat) : Value := (fx.getD j none).getD (u j)
def RX (fx : List (Option Value)) (R : Nat → Value → World → Prop) (i : Nat) (v : Value) (w : World) : Prop := match fx.getD i none with | some x => v = x | none => R i v w
def opTmps (o : Oper) : List Nat := o.op.operands.toList.filterMap fun x => match x with | .tmp t => some t | _ => none
def guardTmp (ops : Array Oper) (o : Oper) : List Nat := match o.guard with | some (g, _) => (dstOf ops g).toList | none => []
/-- what operation i reads comes of operations that it waits for, or was there. -/
def depOk (ops : Array Oper) (m : Nat) : Bool := (List.range m).all fun i => match ops[i]? with
  | some o => notSelect o && ((opTmps o ++ guardTmp ops o).all fun t => (dpreds ops i).any (fun j => Nat.blt j m && dstOf ops j == some t) || (List.range m).all fun j => dstOf ops j != some t)
  | none => true
def ObG (P : Program) (ops : Array Oper) (n : Nat) (ds : List Deferred) (fx : List (Option Value)) (GF : (Nat → Value) → PF) (W : World → Prop) (R : Nat → Value → World → Prop) (E : Nat → World → Value → Prop) (AL : List (Nat × Nat × Option Nat)) (CL : List (Nat × Nat)) (Pr : Nat → World → Prop) (i : Nat) : Prop :=
  ∀ (u : Nat → Value) (w : World), W w → (∀ j, j = i ∨ Tp ops j i → Pr j w) → (∀ j, Tp ops i j → fx.getD j none = none → R j (u j) w) → (∀ p ∈ AL, Tp ops i p.1 → u p.1 = prj p.2.2 (u p.2.1)) → WR P (ops.extract 0 (i + 1)) (NdG n ds (cL CL i) (GF u) (dstOf ops i) w (fun v w' => (E i w v ∧ ∀ p ∈ AL, p.1 = i → v = prj p.2.2 (u p.2.1)) ∧ RX fx R i v w')) i n ds (GF u) w
def ObsG (P : Program) (ops : Array Oper) (n : Nat) (ds : List Deferred) (fx : List (Option Value)) (GF : (Nat → Value) → PF) (W : World → Prop) (R : Nat → Value → World → Prop) (E : Nat → World → Value → Prop) (AL : List (Nat × Nat × Option Nat)) (CL : List (Nat × Nat)) (Pr : Nat → World → Prop) : Nat → Nat → Prop
  | _, 0 => True
  | i, f + 1 => ObG P ops n ds fx GF W R E AL CL Pr i ∧ ObsG P ops n ds fx GF W R E AL CL Pr (i + 1) f
theorem distinct_uniq {m : Nat} (h : distinct (dsts ops m) = true) : ∀ i j d, i < m → j < m → (ops[i]?).bind (·.dst) = some d → (ops[j]?).bind (·.dst) = some d → i = j := by
  have key : ∀ (l : List Nat), distinct (l.filterMap fun i => (ops[i]?).bind (·.dst)) = true → l.Nodup → ∀ i j d, i ∈ l → j ∈ l → (ops[i]?).bind (·.dst) = some d → (ops[j]?).bind (·.dst) = some d → i = j := by
    intro l
    induction l with
    | nil => intro _ _ i j d hi; simp at hi
    | cons x r ih =>
      intro hdi hn i j d hi hj h1 h2
      rw [List.nodup_cons] at hn
      have hmem : ∀ y e, y ∈ r → (ops[y]?).bind (·.dst) = some e → e ∈ r.filterMap fun i => (ops[i]?).bind (·.dst) := fun y e hy he => List.mem_filterMap.2 ⟨y, hy, he⟩
      have hrest : distinct (r.filterMap fun i => (ops[i]?).bind (·.dst)) = true := by
        rw [List.filterMap_cons] at hdi
        split at hdi
        · exact hdi
        · simp only [distinct, Bool.and_eq_true] at hdi; exact hdi.2
      have hfirst : ∀ e, (ops[x]?).bind (·.dst) = some e → e ∉ r.filterMap fun i => (ops[i]?).bind (·.dst) := by
        intro e hx hm
        rw [List.filterMap_cons] at hdi
        split at hdi
        · rename_i hn0; rw [hx] at hn0; cases hn0
        · rename_i e' he'
          rw [hx] at he'
          cases he'
          simp only [distinct, Bool.and_eq_true, Bool.not_eq_true', List.contains_eq_mem, decide_eq_false_iff_not] at hdi
          exact hdi.1 hm
      rcases List.mem_cons.1 hi with rfl | hi'
      · rcases List.mem_cons.1 hj with rfl | hj'
        · rfl
        · exact absurd (hmem j d hj' h2) (hfirst d h1)
      · rcases List.mem_cons.1 hj with rfl | hj'
        · exact absurd (hmem i d hi' h1) (hfirst d h2)
        · exact ih hrest hn.2 i j d hi' hj' h1 h2
  intro i j d hi hj
  exact key (List.range m) h List.nodup_range i j d (List.mem_range.2 hi) (List.mem_range.2 hj)
/-- A frame in which what F tells is so. -/
def over (F : PF) (a : Act) : Act := { a with tmps := Array.ofFn (n := a.tmps.size) fun s => match F.get s with | some v => v | none => a.tmps[s] }
end
end Go.V
