/- A region that draws its order, in which each operation may be done in any order that its edges let: one obligation an operation. Nothing here is about one program. -/
import Derived.Test.YtbklhipicfimeaaDf
import Derived.Test.YtbklhipicfimeaaSl
namespace Go.V
open Go.RowKit
section
variable {P : Program} {ops : Array Oper} {Q : Exit → Act → World → Prop} {n : Nat} {ds : List Deferred} {F : PF} {w : World}

theorem WR.pass1 {k : Nat} {dst : Option Tmp} (h : passDst ops k n F = some dst) (K : WR P ops Q (k + 1) n ds (upd F dst undef) w) : WR P ops Q k n ds F w := by
  unfold passDst at h
  split at h
  · rename_i o ho
    split at h
    · rename_i hw
      split at h
      · rename_i hd
        simp only [Option.some.injEq] at h
        subst h
        intro a ha
        rw [drop_of_get ho]
        unfold wpList
        rw [if_neg (by rw [wants_spec ha hw]; simp)]
        exact K _ (ha.upd hd undef)
      · cases h
    · cases h
  · cases h
theorem Fr.cast {F' : PF} {a : Act} (h : Fr n ds F a) (e : F = F') : Fr n ds F' a := e ▸ h
theorem WR.skipR {k : Nat} {dst : Option Tmp} {w' : World} (hr : decRun P ops k n F w = some (dst, .ok .skip w')) (K : WR P ops Q (k + 1) n ds (upd F dst undef) w') : WR P ops Q k n ds F w := by
  obtain ⟨o, hd, rfl, hrun⟩ := decRun_spec hr
  exact .skip hd hrun K
/-- the operations that this one waits for. -/
def dpreds (ops : Array Oper) (i : Nat) : List Nat := match ops[i]? with | some o => (o.after.toList.filter fun e => Region.binds .any e).map (·.on) | none => []
/-- From m on each operation waits for all ahead of it. -/
def uniN (acc : List Nat) : List Nat → List Nat | [] => acc | x :: r => uniN (match acc.contains x with | true => acc | false => x :: acc) r
def cloN (ops : Array Oper) : Nat → List (List Nat)
  | 0 => []
  | n + 1 => cloN ops n ++ [uniN [] (dpreds ops n ++ (dpreds ops n).flatMap fun k => (cloN ops n).getD k [])]
def sufOk (ops : Array Oper) (m : Nat) : Bool := (List.range' m (ops.size - m)).all fun j => (List.range j).all fun i => ((cloN ops ops.size).getD j []).contains i
/-- what the first m operations write. -/
def dstL (ops : Array Oper) (u : Nat → Value) : Nat → Nat → PF
  | _, 0 => []
  | i, m + 1 => match (ops[i]?).bind (·.dst) with | some d => (d, u i) :: dstL ops u (i + 1) m | none => dstL ops u (i + 1) m
def dsts (ops : Array Oper) (m : Nat) : List Nat := (List.range m).filterMap fun i => (ops[i]?).bind (·.dst)
def distinct : List Nat → Bool | [] => true | a :: r => !r.contains a && distinct r

/-- Edges and guards lead back. -/
def edgesBack (ops : Array Oper) : Bool := (List.range ops.size).all fun i => (dpreds ops i).all fun j => Nat.blt j i
def guardsBack (ops : Array Oper) (m : Nat) : Bool := (List.range m).all fun i => match ops[i]? with | some o => (match o.guard with | some (g, _) => Nat.blt g i | none => true) | none => true
theorem dstL_get {u : Nat → Value} {s : Nat} {x : Value} : ∀ (m i : Nat), (dstL ops u i m).get s = some x → ∃ j, i ≤ j ∧ j < i + m ∧ (ops[j]?).bind (·.dst) = some s ∧ x = u j
  | 0, i, h => by simp [dstL, PF.get] at h
  | m + 1, i, h => by
    unfold dstL at h
    split at h
    · rename_i d hd
      simp only [PF.get] at h
      split at h
      · rename_i hb
        have := Nat.eq_of_beq_eq_true hb
        subst this
        exact ⟨i, Nat.le_refl _, by omega, hd, by simpa using h.symm⟩
      · obtain ⟨j, h1, h2, h3⟩ := dstL_get m (i + 1) h
        exact ⟨j, by omega, by omega, h3⟩
    · obtain ⟨j, h1, h2, h3⟩ := dstL_get m (i + 1) h
      exact ⟨j, by omega, by omega, h3⟩
theorem get_app (A B : PF) (s : Nat) : (A ++ B).get s = match A.get s with | some v => some v | none => PF.get B s := by
  induction A with
  | nil => simp [PF.get]
  | cons p r ih =>
    obtain ⟨j, v⟩ := p
    simp only [List.cons_append, PF.get]
    split <;> simp_all

/-- One operation's end: it leaves v, of which R holds, and nothing that was there has turned. -/
def Nd (Q : Exit → Act → World → Prop) (n : Nat) (ds : List Deferred) (S : List Nat) (F : PF) (dst : Option Tmp) (w : World) (R : Value → World → Prop) : Exit → Act → World → Prop
  | .normal, a, w' => Chg S w w' ∧ ∃ v, Fr n ds (upd F dst v) a ∧ R v w'
  | e, a, w' => Q e a w'
def dstOf (ops : Array Oper) (i : Nat) : Option Tmp := (ops[i]?).bind (·.dst)
/-- operation i comes behind operation j, by itself or through others. -/
inductive Tp (ops : Array Oper) : Nat → Nat → Prop
  | one {i j : Nat} (h : (dpreds ops i).contains j = true) : Tp ops i j
  | step {i k j : Nat} (h : (dpreds ops i).contains k = true) (t : Tp ops k j) : Tp ops i j
theorem Tp.done {listed : Array Bool} (hcl : ∀ j i, listed.getD j false = true → (dpreds ops j).contains i = true → listed.getD i false = true) {i j : Nat} (t : Tp ops i j) (hi : listed.getD i false = true) : listed.getD j false = true := by
  induction t with
  | one h => exact hcl _ _ hi h
  | step h _ ih => exact ih (hcl _ _ hi h)
theorem uniN_mem {x : Nat} : ∀ {l acc : List Nat}, x ∈ uniN acc l → x ∈ acc ∨ x ∈ l
  | [], _, h => .inl h
  | y :: r, acc, h => by
    unfold uniN at h
    rcases uniN_mem h with h | h
    · split at h
      · exact .inl h
      · rcases List.mem_cons.1 h with rfl | h
        · exact .inr (List.mem_cons_self ..)
        · exact .inl h
    · exact .inr (List.mem_cons_of_mem _ h)
theorem cloN_len (ops : Array Oper) : ∀ n, (cloN ops n).length = n
  | 0 => rfl
  | n + 1 => by rw [cloN, List.length_append, cloN_len ops n]; rfl
theorem tp_of_clo : ∀ (n j i : Nat), i ∈ (cloN ops n).getD j [] → Tp ops j i
  | 0, j, i, h => by simp [cloN] at h
  | n + 1, j, i, h => by
    rw [cloN, List.getD_eq_getElem?_getD] at h
    rcases Nat.lt_trichotomy j n with hj | rfl | hj
    · rw [List.getElem?_append_left (by rw [cloN_len]; exact hj), ← List.getD_eq_getElem?_getD] at h
      exact tp_of_clo n j i h
    · rw [List.getElem?_append_right (by rw [cloN_len]; exact Nat.le_refl _), cloN_len, Nat.sub_self] at h
      simp only [List.getElem?_cons_zero, Option.getD_some] at h
      rcases uniN_mem h with h | h
      · cases h
      · rcases List.mem_append.1 h with h | h
        · exact .one (by simpa using h)
        · obtain ⟨k, hk, h⟩ := List.mem_flatMap.1 h
          exact .step (by simpa using hk) (tp_of_clo j k i h)
    · rw [List.getElem?_eq_none (by simp [cloN_len]; omega)] at h
      simp at h
theorem Tp.lt (hb : edgesBack ops = true) {i j : Nat} (t : Tp ops i j) (hi : i < ops.size) : j < i := by
  have one : ∀ a b, a < ops.size → (dpreds ops a).contains b = true → b < a := by
    intro a b ha h
    unfold edgesBack at hb
    rw [List.all_eq_true] at hb
    have := hb a (List.mem_range.2 ha)
    rw [List.all_eq_true] at this
    simpa [Nat.blt_eq] using this b (by simpa using h)
  induction t with
  | one h => exact one _ _ hi h
  | step h _ ih => have h1 := one _ _ hi h; have := ih (by omega); omega
/-- a part of a value. -/
def prj : Option Nat → Value → Value
  | none, v => v
  | some c, .tuple a => a.getD c undef
  | some _, _ => undef
/-- the blocks that operation i changes. -/
def cL (CL : List (Nat × Nat)) (i : Nat) : List Nat := (CL.filter fun p => p.1 == i).map (·.2)
theorem cL_not {CL : List (Nat × Nat)} {i g : Nat} (h : ∀ p ∈ CL, p.2 = g → p.1 ≠ i) : g ∉ cL CL i := by
  intro hm
  unfold cL at hm
  rw [List.mem_map] at hm
  obtain ⟨p, hp, he⟩ := hm
  rw [List.mem_filter] at hp
  exact h p hp.1 he (by simpa using hp.2)
theorem cL_sub {CL : List (Nat × Nat)} {i : Nat} : ∀ t ∈ cL CL i, t ∈ CL.map (·.2) := by
  intro t ht
  unfold cL at ht
  rw [List.mem_map] at ht ⊢
  obtain ⟨p, hp, he⟩ := ht
  exact ⟨p, (List.mem_filter.1 hp).1, he⟩
/-- what is asked of operation i. -/
def Ob (P : Program) (ops : Array Oper) (Q : Exit → Act → World → Prop) (n : Nat) (ds : List Deferred) (m : Nat) (B : PF) (W : World → Prop) (R : Nat → Value → World → Prop) (E : Nat → World → Value → Prop) (AL : List (Nat × Nat × Option Nat)) (CL : List (Nat × Nat)) (Pr : Nat → World → Prop) (i : Nat) : Prop :=
  ∀ (u : Nat → Value) (w : World), W w → (∀ j, j = i ∨ Tp ops j i → Pr j w) → (∀ j, Tp ops i j → R j (u j) w) → (∀ p ∈ AL, Tp ops i p.1 → u p.1 = prj p.2.2 (u p.2.1)) → WR P (ops.extract 0 (i + 1)) (Nd Q n ds (cL CL i) (dstL ops u 0 m ++ B) (dstOf ops i) w (fun v w' => (E i w v ∧ ∀ p ∈ AL, p.1 = i → v = prj p.2.2 (u p.2.1)) ∧ R i v w')) i n ds (dstL ops u 0 m ++ B) w
def Obs (P : Program) (ops : Array Oper) (Q : Exit → Act → World → Prop) (n : Nat) (ds : List Deferred) (m : Nat) (B : PF) (W : World → Prop) (R : Nat → Value → World → Prop) (E : Nat → World → Value → Prop) (AL : List (Nat × Nat × Option Nat)) (CL : List (Nat × Nat)) (Pr : Nat → World → Prop) : Nat → Nat → Prop
  | _, 0 => True
  | i, f + 1 => Ob P ops Q n ds m B W R E AL CL Pr i ∧ Obs P ops Q n ds m B W R E AL CL Pr (i + 1) f
theorem obs_get {m : Nat} {B : PF} {W : World → Prop} {R : Nat → Value → World → Prop} {E : Nat → World → Value → Prop} {AL : List (Nat × Nat × Option Nat)} {CL : List (Nat × Nat)} {Pr : Nat → World → Prop} : ∀ (f i : Nat), Obs P ops Q n ds m B W R E AL CL Pr i f → ∀ j, i ≤ j → j < i + f → Ob P ops Q n ds m B W R E AL CL Pr j
  | 0, i, _, j, h1, h2 => by omega
  | f + 1, i, h, j, h1, h2 => by
    by_cases hj : j = i
    · subst hj; exact h.1
    · exact obs_get f (i + 1) h.2 j (by omega) (by omega)

theorem wpAny_inv {md : Region.Mode} (I : Array Bool → Act → World → Prop)
    (step : ∀ listed a w i, I listed a w → i ∈ Region.ready md ops listed → wpOp P ops Q i (I (listed.setIfInBounds i true)) a w)
    (fin : ∀ listed a w, I listed a w → Region.ready md ops listed = [] → Q .normal a w) :
    ∀ (fuel : Nat) (listed : Array Bool) (a : Act) (w : World), (listed.size = ops.size ∧ (listed.toList.filter (· == false)).length ≤ fuel) → I listed a w → wpAny P md ops Q fuel listed a w
  | 0, listed, a, w, hl, hI => by
    have hr : Region.ready md ops listed = [] := by
      unfold Region.ready
      rw [List.filter_eq_nil_iff]
      intro i hi
      have hlt : i < listed.size := by rw [hl.1]; simpa using hi
      have : listed[i] = true := by
        cases hb : listed[i] with
        | true => rfl
        | false =>
          have : listed[i] ∈ listed.toList.filter (· == false) := by
            rw [List.mem_filter]; exact ⟨by simp, by simp [hb]⟩
          have h0 := List.length_pos_of_mem this
          omega
      simp [this, hlt]
    exact ⟨hr, fin listed a w hI hr⟩
  | fuel + 1, listed, a, w, hl, hI => by
    refine ⟨fun hr => fin listed a w hI hr, fun i hi => wpOp_mono (fun a' w' hI' => wpAny_inv I step fin fuel _ a' w' ?_ hI') (step listed a w i hI hi)⟩
    have hmem : i < ops.size ∧ listed.getD i true = false := by
      unfold Region.ready at hi
      rw [List.mem_filter] at hi
      refine ⟨by simpa using hi.1, ?_⟩
      have := hi.2
      rw [Bool.and_eq_true] at this
      simpa using this.1
    refine ⟨by simpa using hl.1, ?_⟩
    have hlt : i < listed.size := by rw [hl.1]; exact hmem.1
    have hfalse : listed[i] = false := by
      have := hmem.2
      simpa [hlt] using this
    have key : ∀ (l : List Bool) (i : Nat) (h : i < l.length), l[i] = false → ((l.set i true).filter (· == false)).length + 1 = (l.filter (· == false)).length := by
      intro l
      induction l with
      | nil => intro i h; simp at h
      | cons b r ih =>
        intro i h hb
        cases i with
        | zero => simp at hb; subst hb; simp
        | succ i =>
          have := ih i (by simpa using h) (by simpa using hb)
          cases b <;> simp_all <;> omega
    have := key listed.toList i (by simpa using hlt) (by simpa using hfalse)
    have e : (listed.setIfInBounds i true).toList = listed.toList.set i true := by simp
    rw [e]; omega

theorem CW.regionN {id : Nat} (m : Nat) (CL : List (Nat × Nat)) (Pr : Nat → World → Prop) (hPr0 : ∀ j, Pr j { w with drawn := w.drawn + 1 }) (hPr : ∀ i j w w', i ≠ j → Pr j w → Chg (cL CL i) w w' → Pr j w') (W : World → Prop) (R : Nat → Value → World → Prop) (E : Nat → World → Value → Prop) (AL : List (Nat × Nat × Option Nat)) (hAL : (AL.all fun p => (dpreds ops p.1).contains p.2.1) = true) (D : Nat → Nat → Value → Value → Prop) (hD : ∀ i j wq wq' v x, i ≠ j → E i wq v → R i v wq' → R j x wq → D i j v x ∧ D j i x v) (hm : P.follows .mixedOrders = true) (hsuf : (Nat.ble m ops.size && (sufOk ops m && (distinct (dsts ops m) && (edgesBack ops && guardsBack ops m)))) = true)
    (hd : (dsts ops m).all (fun d => Nat.blt d n) = true) (hW0 : W { w with drawn := w.drawn + 1 }) (hW : ∀ i w w', W w → Chg (cL CL i) w w' → W w') (hR : ∀ i j v w w', i ≠ j → R j v w → Chg (cL CL i) w w' → R j v w')
    (ob : Obs P ops Q n ds m F W R E AL CL Pr 0 m)
    (K : ∀ u w, W w → (∀ j, j < m → R j (u j) w) → (∀ j k, j < m → k < m → j ≠ k → D j k (u j) (u k)) → (∀ p ∈ AL, p.1 < m → u p.1 = prj p.2.2 (u p.2.1)) → WR P ops Q m n ds (dstL ops u 0 m ++ F) w) : CW P (.region id ops true) Q n ds F w := by
  intro a ha
  simp only [Bool.and_eq_true] at hsuf
  obtain ⟨hmle, hsuf, hdis, hback, hgb⟩ := hsuf
  have hmle := Nat.le_of_ble_eq_true hmle
  have hdn : ∀ i d, i < m → (ops[i]?).bind (·.dst) = some d → d < n := by
    intro i d hi hb
    rw [List.all_eq_true] at hd
    have := hd d (by unfold dsts; rw [List.mem_filterMap]; exact ⟨i, List.mem_range.2 hi, hb⟩)
    simpa [Nat.blt_eq] using this
  -- two operations that write one slot are one
  have huniq : ∀ i j d, i < m → j < m → (ops[i]?).bind (·.dst) = some d → (ops[j]?).bind (·.dst) = some d → i = j := by
    have key : ∀ (l : List Nat), distinct (l.filterMap fun i => (ops[i]?).bind (·.dst)) = true → l.Nodup → ∀ i j d, i ∈ l → j ∈ l → (ops[i]?).bind (·.dst) = some d → (ops[j]?).bind (·.dst) = some d → i = j := by
      intro l
      induction l with
      | nil => intro _ _ i j d hi; simp at hi
      | cons x r ih =>
        intro hdi hn i j d hi hj h1 h2
        rw [List.nodup_cons] at hn
        have hmem : ∀ y e, y ∈ r → (ops[y]?).bind (·.dst) = some e → e ∈ r.filterMap fun i => (ops[i]?).bind (·.dst) := fun y e hy he => List.mem_filterMap.2 ⟨y, hy, he⟩
        have hrest : distinct (r.filterMap fun i => (ops[i]?).bind (·.dst)) = true := by
          rw [List.filterMap_cons] at hdi
          split at hdi
          · exact hdi
          · simp only [distinct, Bool.and_eq_true] at hdi; exact hdi.2
        have hfirst : ∀ e, (ops[x]?).bind (·.dst) = some e → e ∉ r.filterMap fun i => (ops[i]?).bind (·.dst) := by
          intro e hx hm
          rw [List.filterMap_cons] at hdi
          split at hdi
          · rename_i hn0; rw [hx] at hn0; cases hn0
          · rename_i e' he'
            rw [hx] at he'
            cases he'
            simp only [distinct, Bool.and_eq_true, Bool.not_eq_true', List.contains_eq_mem, decide_eq_false_iff_not] at hdi
            exact hdi.1 hm
        rcases List.mem_cons.1 hi with rfl | hi'
        · rcases List.mem_cons.1 hj with rfl | hj'
          · rfl
          · exact absurd (hmem j d hj' h2) (hfirst d h1)
        · rcases List.mem_cons.1 hj with rfl | hj'
          · exact absurd (hmem i d hi' h1) (hfirst d h2)
          · exact ih hrest hn.2 i j d hi' hj' h1 h2
    intro i j d hi hj
    exact key (List.range m) hdis List.nodup_range i j d (List.mem_range.2 hi) (List.mem_range.2 hj)
  let I : Array Bool → Act → World → Prop := fun listed a w => listed.size = ops.size ∧
    (((∀ j, m ≤ j → listed.getD j true = false ∨ ops.size ≤ j) ∧ W w ∧ ∃ u, Fr n ds (dstL ops u 0 m ++ F) a ∧ (∀ j, j < m → listed.getD j false = true → R j (u j) w) ∧ (∀ j k, j < m → k < m → j ≠ k → listed.getD j false = true → listed.getD k false = true → D j k (u j) (u k)) ∧ (∀ p ∈ AL, p.1 < m → listed.getD p.1 false = true → listed.getD p.2.1 false = true ∧ u p.1 = prj p.2.2 (u p.2.1)) ∧ (∀ j i, listed.getD j false = true → (dpreds ops j).contains i = true → listed.getD i false = true) ∧ (∀ j, listed.getD j false = false → Pr j w)) ∨
     (∃ k, m < k ∧ k ≤ ops.size ∧ (∀ j, j < k → listed.getD j false = true) ∧ (∀ j, k ≤ j → listed.getD j true = false ∨ ops.size ≤ j) ∧ wpList P ops Q (ops.toList.drop k) a w))
  have sufd : ∀ j, m ≤ j → j < ops.size → ∀ i, i < j → Tp ops j i := by
    intro j h1 h2 i hi
    unfold sufOk at hsuf
    rw [List.all_eq_true] at hsuf
    have := hsuf j (by rw [List.mem_range'_1]; omega)
    rw [List.all_eq_true] at this
    exact tp_of_clo ops.size _ i (by simpa using this i (List.mem_range.2 hi))
  have readyd : ∀ (listed : Array Bool) i, i ∈ Region.ready .any ops listed → i < ops.size ∧ listed.getD i true = false ∧ ∀ j, (dpreds ops i).contains j = true → listed.getD j false = true := by
    intro listed i hi
    unfold Region.ready at hi
    rw [List.mem_filter] at hi
    have hlt : i < ops.size := by simpa using hi.1
    have h2 := hi.2
    rw [Bool.and_eq_true] at h2
    refine ⟨hlt, by simpa using h2.1, fun j hj => ?_⟩
    unfold dpreds at hj
    rw [Array.getElem?_eq_getElem hlt] at hj h2
    simp only [List.contains_eq_mem, decide_eq_true_eq, List.mem_map, List.mem_filter] at hj
    obtain ⟨e, ⟨he, hb⟩, rfl⟩ := hj
    have h3 := h2.2
    simp only [Option.map_some, Option.getD_some, Array.all_eq_true'] at h3
    have := h3 e (by simpa using he)
    rw [hb] at this
    simpa using this
  have readyI : ∀ (listed : Array Bool) i, i < ops.size → listed.getD i true = false → (∀ j, (dpreds ops i).contains j = true → listed.getD j false = true) → i ∈ Region.ready .any ops listed := by
    intro listed i hlt h1 h2
    unfold Region.ready
    rw [List.mem_filter]
    refine ⟨by simpa using hlt, ?_⟩
    rw [Array.getElem?_eq_getElem hlt, h1]
    simp only [Bool.not_false, Bool.true_and, Option.map_some, Option.getD_some, Array.all_eq_true']
    intro e he
    cases hb : Region.binds .any e with
    | false => rfl
    | true =>
      have := h2 e.on (by
        unfold dpreds
        rw [Array.getElem?_eq_getElem hlt]
        simp only [List.contains_eq_mem, decide_eq_true_eq, List.mem_map, List.mem_filter]
        exact ⟨e, ⟨by simpa using he, hb⟩, rfl⟩)
      rw [this]; rfl
  refine wp_region_any hm (wpAny_inv I ?_ ?_ ops.size _ a _ ⟨by simp, by simp⟩ ⟨by simp, .inl ⟨fun j hj => ?_, hW0, fun i => a.tmps.getD ((dstOf ops i).getD 0) undef, ⟨ha.size, ha.defers, ?_⟩, fun j hj hl => ?_, fun j k hj hk hjk hl _ => ?_, fun pr _ _ hl => ?_, fun j _ hl _ => ?_, fun j _ => hPr0 j⟩⟩)
  · -- a step
    intro listed a w i hI hi
    obtain ⟨hilt, hil, hip⟩ := readyd listed i hi
    obtain ⟨hls, hI⟩ := hI
    have hset : ∀ j d, (listed.setIfInBounds i true).getD j d = if j = i then true else listed.getD j d := by
      intro j d
      rw [Array.getD_eq_getD_getElem?, Array.getElem?_setIfInBounds]
      split
      · rename_i h; subst h; simp [hls, hilt]
      · rename_i h; rw [if_neg (fun e => h e.symm), ← Array.getD_eq_getD_getElem?]
    rcases hI with ⟨hsufI, hWw, u, hfr, hRs, hDs, hAs, hcl, hPs⟩ | ⟨k, hmk, hkn, hdone, hrest, hwl⟩
    · by_cases him : i < m
      · -- one of the first m
        have hdone : ∀ j, Tp ops i j → listed.getD j false = true := by
          intro j t
          cases t with
          | one h => exact hip _ h
          | step h t => exact t.done hcl (hip _ h)
        have hAm : ∀ p ∈ AL, Tp ops i p.1 → u p.1 = prj p.2.2 (u p.2.1) := by
          intro p hp t
          have hjl := hdone p.1 t
          have hjlt : p.1 < ops.size := by
            rcases Nat.lt_or_ge p.1 listed.size with h | h
            · rw [← hls]; exact h
            · rw [Array.getD_eq_getD_getElem?, Array.getElem?_eq_none h] at hjl; cases hjl
          have hjm : p.1 < m := by
            rcases Nat.lt_or_ge p.1 m with h | h
            · exact h
            · rcases hsufI p.1 h with h' | h'
              · rw [Array.getD_eq_getD_getElem?] at h' hjl
                rw [Array.getElem?_eq_getElem (by omega)] at h' hjl
                simp at h' hjl
                rw [h'] at hjl; cases hjl
              · omega
          exact (hAs p hp hjm hjl).2
        have hOb := obs_get m 0 ob i (Nat.zero_le _) (by omega) u w hWw (fun j hj => hPs j (by
          have hif : listed.getD i false = false := by
            rw [Array.getD_eq_getD_getElem?] at hil ⊢
            rw [Array.getElem?_eq_getElem (by omega)] at hil ⊢
            simpa using hil
          rcases hj with rfl | hj
          · exact hif
          · cases hlj : listed.getD j false with
            | false => rfl
            | true => rw [hj.done hcl hlj] at hif; cases hif)) (fun j hj => by
          have hjl := hdone j hj
          have hjlt : j < ops.size := by
            rcases Nat.lt_or_ge j listed.size with h | h
            · rw [← hls]; exact h
            · rw [Array.getD_eq_getD_getElem?, Array.getElem?_eq_none h] at hjl; cases hjl
          have hjm : j < m := by
            rcases Nat.lt_or_ge j m with h | h
            · exact h
            · rcases hsufI j h with h' | h'
              · rw [Array.getD_eq_getD_getElem?] at h' hjl
                rw [Array.getElem?_eq_getElem (by omega)] at h' hjl
                simp at h' hjl
                rw [h'] at hjl; cases hjl
              · omega
          exact hRs j hjm hjl) hAm
        have hw := hOb a hfr
        have hext : (ops.extract 0 (i + 1)).toList.drop i = [ops[i]] := by
          rw [Array.toList_extract]
          simp only [List.extract_eq_take_drop, Nat.sub_zero, List.drop_zero]
          rw [List.take_succ_eq_append_getElem (by simpa using hilt), List.drop_append]
          simp [Nat.min_eq_left (Nat.le_of_lt hilt)]
        rw [hext] at hw
        have hio : ops[i]? = some ops[i] := Array.getElem?_eq_getElem hilt
        have hyi : ∀ (o : Oper), Region.wanted o (yielded (ops.extract 0 (i + 1)) a.tmps) = Region.wanted o (yielded (ops.extract 0 (i + 1)) a.tmps) := fun _ => rfl
        have hdO : dstOf ops i = ops[i].dst := by simp [dstOf, hio]
        -- what the operation leaves is kept by the invariant
        have leave : ∀ a' w', Nd Q n ds (cL CL i) (dstL ops u 0 m ++ F) (dstOf ops i) w (fun v w' => (E i w v ∧ ∀ p ∈ AL, p.1 = i → v = prj p.2.2 (u p.2.1)) ∧ R i v w') .normal a' w' → I (listed.setIfInBounds i true) a' w' := by
          rintro a' w' ⟨hch, v, hf', ⟨hEv, hAv⟩, hRv⟩
          refine ⟨by simpa using hls, .inl ⟨fun j hj => ?_, hW i w w' hWw hch, fun j => if j = i then v else u j, ⟨hf'.size, hf'.defers, ?_⟩, fun j hj hl => ?_, fun j k hj hk hjk hl hl2 => ?_, fun pr hp hpm hl => ?_, fun j i' hl hd' => ?_, fun j hl => ?_⟩⟩
          · rw [hset]
            rw [if_neg (by omega)]; exact hsufI j hj
          · intro s x hx
            rw [get_app] at hx
            split at hx
            · rename_i y hy
              simp only [Option.some.injEq] at hx
              subst hx
              obtain ⟨j, h1, h2, h3, rfl⟩ := dstL_get m 0 hy
              by_cases hji : j = i
              · subst hji
                simp only [if_true]
                have : (upd (dstL ops u 0 m ++ F) (dstOf ops j) v).get s = some v := by
                  unfold dstOf; rw [h3]; simp [upd, PF.get]
                exact hf'.val s v this
              · rw [if_neg hji]
                have hne : dstOf ops i ≠ some s := fun e => hji (huniq j i s (by omega) him h3 e)
                have hj : ∀ (m' k : Nat), k ≤ j → j < k + m' → m' + k ≤ m → (dstL ops u k m').get s = some (u j) := by
                  intro m'
                  induction m' with
                  | zero => intro k h1 h2; omega
                  | succ m' ih =>
                    intro k h1 h2 h4
                    unfold dstL
                    by_cases hkj : k = j
                    · subst hkj; rw [h3]; simp [PF.get]
                    · split
                      · rename_i d hd
                        simp only [PF.get]
                        split
                        · rename_i hb
                          have := Nat.eq_of_beq_eq_true hb
                          subst this
                          exact absurd (huniq k j d (by omega) (by omega) hd h3) hkj
                        · exact ih (k + 1) (by omega) (by omega) (by omega)
                      · exact ih (k + 1) (by omega) (by omega) (by omega)
                refine hf'.val s (u j) ?_
                have e1 : (dstL ops u 0 m ++ F).get s = some (u j) := by
                  rw [get_app, hj m 0 (Nat.zero_le _) (by omega) (by omega)]
                unfold upd
                split
                · rename_i d hd
                  simp only [PF.get]
                  split
                  · rename_i hb
                    have := Nat.eq_of_beq_eq_true hb
                    subst this
                    exact absurd hd hne
                  · exact e1
                · exact e1
            · rename_i hy
              -- the slot is none of the m, or i's own is hidden by F
              have hnot : ∀ j, j < m → (ops[j]?).bind (·.dst) ≠ some s := by
                intro j hj hs
                have hj' : ∀ (m' k : Nat), k ≤ j → j < k + m' → (dstL ops (fun j => if j = i then v else u j) k m').get s ≠ none := by
                  intro m'
                  induction m' with
                  | zero => intro k h1 h2; omega
                  | succ m' ih =>
                    intro k h1 h2
                    unfold dstL
                    by_cases hkj : k = j
                    · subst hkj; rw [hs]; simp [PF.get]
                    · split
                      · simp only [PF.get]
                        split
                        · simp
                        · exact ih (k + 1) (by omega) (by omega)
                      · exact ih (k + 1) (by omega) (by omega)
                exact hj' m 0 (Nat.zero_le _) (by omega) hy
              refine hf'.val s x ?_
              have hne : dstOf ops i ≠ some s := hnot i him
              have e1 : (dstL ops u 0 m ++ F).get s = some x := by
                rw [get_app]
                split
                · rename_i z hz
                  obtain ⟨j, _, h2, h3, _⟩ := dstL_get m 0 hz
                  exact absurd h3 (hnot j (by omega))
                · exact hx
              unfold upd
              split
              · rename_i d hd
                simp only [PF.get]
                split
                · rename_i hb
                  have := Nat.eq_of_beq_eq_true hb
                  subst this
                  exact absurd hd hne
                · exact e1
              · exact e1
          · rw [hset] at hl
            by_cases hji : j = i
            · subst hji; simpa using hRv
            · rw [if_neg hji] at hl
              simp only [if_neg hji]
              exact hR i j (u j) w w' (Ne.symm hji) (hRs j hj hl) hch
          · rw [hset] at hl hl2
            by_cases hji : j = i
            · subst hji
              rw [if_neg (fun e => hjk e.symm)] at hl2
              simp only [if_true, if_neg (fun e => hjk (Eq.symm e) : ¬ k = j)]
              exact (hD j k w w' v (u k) hjk hEv hRv (hRs k hk hl2)).1
            · rw [if_neg hji] at hl
              by_cases hki : k = i
              · subst hki
                simp only [if_true, if_neg hji]
                exact (hD k j w w' v (u j) (Ne.symm hjk) hEv hRv (hRs j hj hl)).2
              · rw [if_neg hki] at hl2
                simp only [if_neg hji, if_neg hki]
                exact hDs j k hj hk hjk hl hl2
          · have hdep : (dpreds ops pr.1).contains pr.2.1 = true := by rw [List.all_eq_true] at hAL; exact hAL pr hp
            rw [hset] at hl
            by_cases hpi : pr.1 = i
            · have hs2 : listed.getD pr.2.1 false = true := hip pr.2.1 (by rw [← hpi]; exact hdep)
              have hne : ¬ pr.2.1 = i := by
                intro e
                rw [e] at hs2
                rw [Array.getD_eq_getD_getElem?] at hs2 hil
                rw [Array.getElem?_eq_getElem (by omega)] at hs2 hil
                simp at hs2 hil
                rw [hs2] at hil; cases hil
              rw [hset, if_neg hne]
              exact ⟨hs2, by simp only [hpi, if_true, if_neg hne]; exact hAv pr hp hpi⟩
            · rw [if_neg hpi] at hl
              obtain ⟨hs2, he⟩ := hAs pr hp hpm hl
              have hne : ¬ pr.2.1 = i := by
                intro e
                rw [e] at hs2
                rw [Array.getD_eq_getD_getElem?] at hs2 hil
                rw [Array.getElem?_eq_getElem (by omega)] at hs2 hil
                simp at hs2 hil
                rw [hs2] at hil; cases hil
              rw [hset, if_neg hne]
              exact ⟨hs2, by simp only [if_neg hpi, if_neg hne]; exact he⟩
          · rw [hset] at hl ⊢
            by_cases hji : j = i
            · split
              · rfl
              · exact hip i' (by rw [← hji]; exact hd')
            · rw [if_neg hji] at hl
              split
              · rfl
              · exact hcl j i' hl hd'
          · rw [hset] at hl
            by_cases hji : j = i
            · rw [if_pos hji] at hl; cases hl
            · rw [if_neg hji] at hl
              exact hPr i j w w' (Ne.symm hji) (hPs j hl) hch
        have hwant : Region.wanted ops[i] (yielded (ops.extract 0 (i + 1)) a.tmps) = Region.wanted ops[i] (yielded ops a.tmps) := by
          unfold Region.wanted
          cases hg : ops[i].guard with
          | none => rfl
          | some gb =>
            obtain ⟨g, b⟩ := gb
            have hgi : g < i := by
              unfold guardsBack at hgb
              rw [List.all_eq_true] at hgb
              have := hgb i (List.mem_range.2 him)
              rw [hio] at this
              simp only [hg] at this
              simpa [Nat.blt_eq] using this
            have : (ops.extract 0 (i + 1))[g]? = ops[g]? := by
              rw [Array.getElem?_extract]
              simp only [Nat.sub_zero, Nat.zero_add]
              rw [if_pos (by omega)]
            simp only [yielded, this]
        unfold wpOp
        rw [hio]
        simp only
        unfold wpList at hw
        have hnil : ∀ a' w', wpList P (ops.extract 0 (i + 1)) (Nd Q n ds (cL CL i) (dstL ops u 0 m ++ F) (dstOf ops i) w (fun v w' => (E i w v ∧ ∀ p ∈ AL, p.1 = i → v = prj p.2.2 (u p.2.1)) ∧ R i v w')) [] a' w' → I (listed.setIfInBounds i true) a' w' := fun a' w' h => leave a' w' h
        have qmono : ∀ e a' w', e ≠ .normal → Nd Q n ds (cL CL i) (dstL ops u 0 m ++ F) (dstOf ops i) w (fun v w' => (E i w v ∧ ∀ p ∈ AL, p.1 = i → v = prj p.2.2 (u p.2.1)) ∧ R i v w') e a' w' → Q e a' w' := by
          intro e a' w' he h
          cases e <;> first | exact absurd rfl he | exact h
        have opmono : ops[i].wp P a w (wpList P (ops.extract 0 (i + 1)) (Nd Q n ds (cL CL i) (dstL ops u 0 m ++ F) (dstOf ops i) w (fun v w' => (E i w v ∧ ∀ p ∈ AL, p.1 = i → v = prj p.2.2 (u p.2.1)) ∧ R i v w')) []) (Nd Q n ds (cL CL i) (dstL ops u 0 m ++ F) (dstOf ops i) w (fun v w' => (E i w v ∧ ∀ p ∈ AL, p.1 = i → v = prj p.2.2 (u p.2.1)) ∧ R i v w')) → ops[i].wp P a w (I (listed.setIfInBounds i true)) Q := by
          intro h
          unfold Oper.wp at h ⊢
          generalize (execOp a.eval ops[i]).run P w = r at h ⊢
          unfold Oper.upon at h ⊢
          split at h
          · exact hnil _ _ h
          · exact hnil _ _ h
          · exact hnil _ _ h
          · refine h.mono fun e w' he => ?_
            cases e with
            | returned v => exact hnil _ _ he
            | panicked ch => exact qmono _ _ _ (by simp) he
            | outgrown => obtain ⟨a1, w1, h1⟩ := he; exact ⟨a1, w1, qmono _ _ _ (by simp) h1⟩
          · exact h.mono fun v w' he => hnil _ _ he
          · exact qmono _ _ _ (by simp) h
          · exact h.elim
        have outmono : LetsOut (Nd Q n ds (cL CL i) (dstL ops u 0 m ++ F) (dstOf ops i) w (fun v w' => (E i w v ∧ ∀ p ∈ AL, p.1 = i → v = prj p.2.2 (u p.2.1)) ∧ R i v w')) → LetsOut Q := fun ⟨a1, w1, h1⟩ => ⟨a1, w1, qmono _ _ _ (by simp) h1⟩
        rw [hwant] at hw
        split
        · rename_i hwn
          rw [if_pos hwn] at hw
          rcases hw with hw | hw
          · exact .inl (opmono hw)
          · exact .inr ⟨hw.1, outmono hw.2⟩
        · rename_i hwn
          rw [if_neg hwn] at hw
          exact hnil _ _ hw
      · -- the first of those behind
        have him' : m ≤ i := by omega
        have hall : ∀ j, j < i → listed.getD j false = true := fun j hj => by
          cases sufd i him' hilt j hj with
          | one h => exact hip _ h
          | step h t => exact t.done hcl (hip _ h)
        have hieq : i = m := by
          rcases Nat.lt_or_ge m i with h | h
          · exfalso
            have h1 := hall m h
            rcases hsufI m (Nat.le_refl _) with h2 | h2
            · rw [Array.getD_eq_getD_getElem?] at h1 h2
              rw [Array.getElem?_eq_getElem (by omega)] at h1 h2
              simp at h1 h2
              rw [h1] at h2; cases h2
            · omega
          · omega
        subst hieq
        have hK := K u w hWw (fun j hj => hRs j hj (hall j hj)) (fun j k hj hk hjk => hDs j k hj hk hjk (hall j hj) (hall k hk)) (fun pr hp hpm => (hAs pr hp hpm (hall pr.1 hpm)).2) a hfr
        rw [drop_of_get (Array.getElem?_eq_getElem hilt)] at hK
        have hwo : wpOp P ops Q i (wpList P ops Q (ops.toList.drop (i + 1))) a w := by
          unfold wpOp
          rw [Array.getElem?_eq_getElem hilt]
          exact hK
        refine wpOp_mono (fun a' w' h => ⟨by simpa using hls, .inr ⟨i + 1, by omega, by omega, fun j hj => ?_, fun j hj => ?_, h⟩⟩) hwo
        · rw [hset]; split
          · rfl
          · exact hall j (by omega)
        · rw [hset, if_neg (by omega)]; exact hsufI j (by omega)
    · -- one of those behind
      have hik : i = k := by
        rcases Nat.lt_trichotomy i k with h | h | h
        · have h1 := hdone i h
          rw [Array.getD_eq_getD_getElem?] at h1 hil
          rw [Array.getElem?_eq_getElem (by omega)] at h1 hil
          simp at h1 hil
          rw [h1] at hil; cases hil
        · exact h
        · exfalso
          have h1 : listed.getD k false = true := by
            cases sufd i (by omega) hilt k h with
            | one h => exact hip _ h
            | @step _ p _ h t =>
              have hp := hip _ h
              have hpi : p < i := Tp.lt hback (.one h) hilt
              have hpk := Tp.lt hback t (by omega)
              rcases hrest p (by omega) with h2 | h2
              · rw [Array.getD_eq_getD_getElem?] at hp h2
                rw [Array.getElem?_eq_getElem (by omega)] at hp h2
                simp at hp h2
                rw [hp] at h2; cases h2
              · omega
          rcases hrest k (Nat.le_refl _) with h2 | h2
          · rw [Array.getD_eq_getD_getElem?] at h1 h2
            rw [Array.getElem?_eq_getElem (by omega)] at h1 h2
            simp at h1 h2
            rw [h1] at h2; cases h2
          · omega
      subst hik
      rw [drop_of_get (Array.getElem?_eq_getElem hilt)] at hwl
      have hwo : wpOp P ops Q i (wpList P ops Q (ops.toList.drop (i + 1))) a w := by
        unfold wpOp
        rw [Array.getElem?_eq_getElem hilt]
        exact hwl
      refine wpOp_mono (fun a' w' h => ⟨by simpa using hls, .inr ⟨i + 1, by omega, by omega, fun j hj => ?_, fun j hj => ?_, h⟩⟩) hwo
      · rw [hset]; split
        · rfl
        · exact hdone j (by omega)
      · rw [hset, if_neg (by omega)]; exact hrest j (by omega)
  · -- none is left
    intro listed a w hI hr
    obtain ⟨hls, hI⟩ := hI
    have hall : ∀ j, j < ops.size → listed.getD j true = true := by
      intro j
      induction j using Nat.strongRecOn with
      | _ j ih =>
        intro hj
        cases hb : listed.getD j true with
        | true => rfl
        | false =>
          exfalso
          have hmem := readyI listed j hj hb (fun i hi => by
            have hij : i < j := by
              unfold edgesBack at hback
              rw [List.all_eq_true] at hback
              have := hback j (List.mem_range.2 hj)
              rw [List.all_eq_true] at this
              have := this i (by simpa using hi)
              simpa [Nat.blt_eq] using this
            have h1 := ih i hij (by omega)
            rw [Array.getD_eq_getD_getElem?] at h1 ⊢
            rw [Array.getElem?_eq_getElem (by omega)] at h1 ⊢
            simpa using h1)
          rw [hr] at hmem; cases hmem
    rcases hI with ⟨hsufI, hWw, u, hfr, hRs, hDs, hAs, hcl, _⟩ | ⟨k, hmk, hkn, hdone, hrest, hwl⟩
    · have hms : m = ops.size := by
        rcases Nat.lt_or_ge m ops.size with h | h
        · exfalso
          rcases hsufI m (Nat.le_refl _) with h2 | h2
          · rw [hall m h] at h2; cases h2
          · omega
        · omega
      have hall' : ∀ j, j < m → listed.getD j false = true := by
        intro j hj
        have h1 := hall j (by omega)
        rw [Array.getD_eq_getD_getElem?] at h1 ⊢
        rw [Array.getElem?_eq_getElem (by omega)] at h1 ⊢
        simpa using h1
      have hK := K u w hWw (fun j hj => hRs j hj (hall' j hj)) (fun j k hj hk hjk => hDs j k hj hk hjk (hall' j hj) (hall' k hk)) (fun pr hp hpm => (hAs pr hp hpm (hall' pr.1 hpm)).2) a hfr
      rw [List.drop_eq_nil_of_le (by simp; omega)] at hK
      exact hK
    · have hks : k = ops.size := by
        rcases Nat.lt_or_ge k ops.size with h | h
        · exfalso
          rcases hrest k (Nat.le_refl _) with h2 | h2
          · rw [hall k h] at h2; cases h2
          · omega
        · omega
      rw [List.drop_eq_nil_of_le (by simp; omega)] at hwl
      exact hwl
  · rcases Nat.lt_or_ge j ops.size with h | h
    · left; rw [Array.getD_eq_getD_getElem?]; simp [h]
    · exact .inr h
  · intro s x hx
    rw [get_app] at hx
    split at hx
    · rename_i y hy
      simp only [Option.some.injEq] at hx
      subst hx
      obtain ⟨j, h1, h2, h3, rfl⟩ := dstL_get m 0 hy
      refine ⟨?_, hdn j s (by omega) h3⟩
      simp [dstOf, h3]
    · exact ha.val s x hx
  · exfalso
    rw [Array.getD_eq_getD_getElem?] at hl
    rcases Nat.lt_or_ge j ops.size with h | h
    · simp [h] at hl
    · simp [Nat.not_lt.2 h] at hl
  · exfalso
    rw [Array.getD_eq_getD_getElem?] at hl
    rcases Nat.lt_or_ge j ops.size with h | h
    · simp [h] at hl
    · simp [Nat.not_lt.2 h] at hl
  · exfalso
    rw [Array.getD_eq_getD_getElem?] at hl
    rcases Nat.lt_or_ge pr.1 ops.size with h | h
    · simp [h] at hl
    · simp [Nat.not_lt.2 h] at hl
  · exfalso
    rw [Array.getD_eq_getD_getElem?] at hl
    rcases Nat.lt_or_ge j ops.size with h | h
    · simp [h] at hl
    · simp [Nat.not_lt.2 h] at hl
/-- the address of what is new. -/
def adL : List Value → Option Addr | .slice ad _ _ :: _ => ad | _ :: r => adL r | [] => none
def adOf : Value → Option Addr | .slice ad _ _ => ad | .pointer a => a | .tuple a => adL a.toList | _ => none
theorem ptrApart {g g' o o' : Nat} (h : Apart (adOf (.pointer (some ⟨g, o, none⟩))) (adOf (.pointer (some ⟨g', o', none⟩)))) : g ≠ g' := by
  rcases h with h | h | h
  · cases h
  · cases h
  · exact h
theorem newLt {w : World} {v : Value} {c : Array Value} {e m : Nat} (h : ∃ g, v = .pointer (some ⟨g, 0, none⟩) ∧ Blk w g c e ∧ m ≤ g) : adOf v = none ∨ bk (adOf v) < w.heap.size := by
  obtain ⟨g, rfl, hb, _⟩ := h
  exact .inr hb.lt
theorem ownLt {w : World} {v : Value} {B sz n : Nat} {cs : List Value} (f : Option Addr → Nat → Value) (hf : ∀ ad cap, adOf (f ad cap) = ad) (h : ∃ ad cap e, v = f ad cap ∧ Own w B e sz ad n cap cs) : adOf v = none ∨ bk (adOf v) < w.heap.size := by
  obtain ⟨ad, cap, e, rfl, ho⟩ := h
  rw [hf]
  rcases ho.ge with h | h
  · exact .inl h
  · exact .inr h.2
theorem alNone {AL : List (Nat × Nat × Option Nat)} {i : Nat} {u : Nat → Value} {v : Value} (h : (AL.all fun p => p.1 != i) = true) : ∀ p ∈ AL, p.1 = i → v = prj p.2.2 (u p.2.1) := by
  intro p hp hi
  rw [List.all_eq_true] at h
  have := h p hp
  rw [hi] at this; simp at this
theorem alOne {AL : List (Nat × Nat × Option Nat)} {i s : Nat} {c : Option Nat} {u : Nat → Value} {v : Value} (h : (AL.all fun p => p.1 != i || (p.2.1 == s && p.2.2 == c)) = true) (hv : prj c (u s) = v) : ∀ p ∈ AL, p.1 = i → v = prj p.2.2 (u p.2.1) := by
  intro p hp hi
  rw [List.all_eq_true] at h
  have := h p hp
  rw [hi] at this
  simp at this
  rw [this.1, this.2, hv]
/-- The same, where the results of the operations FS are new: they lie apart. -/
theorem CW.regionF {id : Nat} (m : Nat) (CL : List (Nat × Nat)) (Pr : Nat → World → Prop) (hPr0 : ∀ j, Pr j { w with drawn := w.drawn + 1 }) (hPr : ∀ i j w w', i ≠ j → Pr j w → Chg (cL CL i) w w' → Pr j w') (FS : List Nat) (AL : List (Nat × Nat × Option Nat)) (hAL : (AL.all fun p => (dpreds ops p.1).contains p.2.1) = true) (W : World → Prop) (R : Nat → Value → World → Prop) (hOld : ∀ j x w, FS.contains j = true → R j x w → adOf x = none ∨ bk (adOf x) < w.heap.size) (hm : P.follows .mixedOrders = true) (hsuf : (Nat.ble m ops.size && (sufOk ops m && (distinct (dsts ops m) && (edgesBack ops && guardsBack ops m)))) = true)
    (hd : (dsts ops m).all (fun d => Nat.blt d n) = true) (hW0 : W { w with drawn := w.drawn + 1 }) (hW : ∀ i w w', W w → Chg (cL CL i) w w' → W w') (hR : ∀ i j v w w', i ≠ j → R j v w → Chg (cL CL i) w w' → R j v w')
    (ob : Obs P ops Q n ds m F W R (fun i wq v => FS.contains i = true → adOf v = none ∨ wq.heap.size ≤ bk (adOf v)) AL CL Pr 0 m)
    (K : ∀ u w, W w → (∀ j, j < m → R j (u j) w) → (∀ j k, j < m → k < m → j ≠ k → FS.contains j = true → FS.contains k = true → Apart (adOf (u j)) (adOf (u k))) → (∀ p ∈ AL, p.1 < m → u p.1 = prj p.2.2 (u p.2.1)) → WR P ops Q m n ds (dstL ops u 0 m ++ F) w) : CW P (.region id ops true) Q n ds F w := by
  refine CW.regionN m CL Pr hPr0 hPr W R (fun i wq v => FS.contains i = true → adOf v = none ∨ wq.heap.size ≤ bk (adOf v)) AL hAL (fun j k u v => FS.contains j = true → FS.contains k = true → Apart (adOf u) (adOf v)) ?_ hm hsuf hd hW0 hW hR ob K
  intro i j wq wq' v x _ hE _ hx
  have key : FS.contains i = true → FS.contains j = true → Apart (adOf v) (adOf x) := by
    intro h1 h2
    rcases hE h1 with h | h
    · exact .inl h
    · rcases hOld j x wq h2 hx with h3 | h3
      · exact .inr (.inl h3)
      · exact .inr (.inr (by omega))
  exact ⟨key, fun h1 h2 => (key h2 h1).symm⟩
/-! ### The same, where each operation is looked at in one frame: what is fixed is known from the first on -/
/-- One operation's end, which is no panic. -/
def NdG (n : Nat) (ds : List Deferred) (S : List Nat) (F : PF) (dst : Option Tmp) (w : World) (R : Value → World → Prop) : Exit → Act → World → Prop
  | .normal, a, w' => Chg S w w' ∧ ∃ v, Fr n ds (upd F dst v) a ∧ R v w'
  | _, _, _ => False
/-- what each operation leaves, where it is fixed. -/
def fxU (fx : List (Option Value)) (u : Nat → Value) (j : Nat) : Value := (fx.getD j none).getD (u j)
def RX (fx : List (Option Value)) (R : Nat → Value → World → Prop) (i : Nat) (v : Value) (w : World) : Prop := match fx.getD i none with | some x => v = x | none => R i v w
def opTmps (o : Oper) : List Nat := o.op.operands.toList.filterMap fun x => match x with | .tmp t => some t | _ => none
def guardTmp (ops : Array Oper) (o : Oper) : List Nat := match o.guard with | some (g, _) => (dstOf ops g).toList | none => []
/-- what operation i reads comes of operations that it waits for, or was there. -/
def depOk (ops : Array Oper) (m : Nat) : Bool := (List.range m).all fun i => match ops[i]? with
  | some o => notSelect o && ((opTmps o ++ guardTmp ops o).all fun t => (dpreds ops i).any (fun j => Nat.blt j m && dstOf ops j == some t) || (List.range m).all fun j => dstOf ops j != some t)
  | none => true
def ObG (P : Program) (ops : Array Oper) (n : Nat) (ds : List Deferred) (fx : List (Option Value)) (GF : (Nat → Value) → PF) (W : World → Prop) (R : Nat → Value → World → Prop) (E : Nat → World → Value → Prop) (AL : List (Nat × Nat × Option Nat)) (CL : List (Nat × Nat)) (Pr : Nat → World → Prop) (i : Nat) : Prop :=
  ∀ (u : Nat → Value) (w : World), W w → (∀ j, j = i ∨ Tp ops j i → Pr j w) → (∀ j, Tp ops i j → fx.getD j none = none → R j (u j) w) → (∀ p ∈ AL, Tp ops i p.1 → u p.1 = prj p.2.2 (u p.2.1)) → WR P (ops.extract 0 (i + 1)) (NdG n ds (cL CL i) (GF u) (dstOf ops i) w (fun v w' => (E i w v ∧ ∀ p ∈ AL, p.1 = i → v = prj p.2.2 (u p.2.1)) ∧ RX fx R i v w')) i n ds (GF u) w
def ObsG (P : Program) (ops : Array Oper) (n : Nat) (ds : List Deferred) (fx : List (Option Value)) (GF : (Nat → Value) → PF) (W : World → Prop) (R : Nat → Value → World → Prop) (E : Nat → World → Value → Prop) (AL : List (Nat × Nat × Option Nat)) (CL : List (Nat × Nat)) (Pr : Nat → World → Prop) : Nat → Nat → Prop
  | _, 0 => True
  | i, f + 1 => ObG P ops n ds fx GF W R E AL CL Pr i ∧ ObsG P ops n ds fx GF W R E AL CL Pr (i + 1) f
theorem dstL_at {u : Nat → Value} {s m : Nat} (huniq : ∀ i j d, i < m → j < m → (ops[i]?).bind (·.dst) = some d → (ops[j]?).bind (·.dst) = some d → i = j) {j : Nat} (hjm : j < m) (hs : (ops[j]?).bind (·.dst) = some s) : (dstL ops u 0 m).get s = some (u j) := by
  have hj : ∀ (m' k : Nat), k ≤ j → j < k + m' → m' + k ≤ m → (dstL ops u k m').get s = some (u j) := by
    intro m'
    induction m' with
    | zero => intro k h1 h2; omega
    | succ m' ih =>
      intro k h1 h2 h4
      unfold dstL
      by_cases hkj : k = j
      · subst hkj; rw [hs]; simp [PF.get]
      · split
        · rename_i d hd
          simp only [PF.get]
          split
          · rename_i hb
            have := Nat.eq_of_beq_eq_true hb
            subst this
            exact absurd (huniq k j d (by omega) (by omega) hd hs) hkj
          · exact ih (k + 1) (by omega) (by omega) (by omega)
        · exact ih (k + 1) (by omega) (by omega) (by omega)
  exact hj m 0 (Nat.zero_le _) (by omega) (by omega)
theorem distinct_uniq {m : Nat} (h : distinct (dsts ops m) = true) : ∀ i j d, i < m → j < m → (ops[i]?).bind (·.dst) = some d → (ops[j]?).bind (·.dst) = some d → i = j := by
  have key : ∀ (l : List Nat), distinct (l.filterMap fun i => (ops[i]?).bind (·.dst)) = true → l.Nodup → ∀ i j d, i ∈ l → j ∈ l → (ops[i]?).bind (·.dst) = some d → (ops[j]?).bind (·.dst) = some d → i = j := by
    intro l
    induction l with
    | nil => intro _ _ i j d hi; simp at hi
    | cons x r ih =>
      intro hdi hn i j d hi hj h1 h2
      rw [List.nodup_cons] at hn
      have hmem : ∀ y e, y ∈ r → (ops[y]?).bind (·.dst) = some e → e ∈ r.filterMap fun i => (ops[i]?).bind (·.dst) := fun y e hy he => List.mem_filterMap.2 ⟨y, hy, he⟩
      have hrest : distinct (r.filterMap fun i => (ops[i]?).bind (·.dst)) = true := by
        rw [List.filterMap_cons] at hdi
        split at hdi
        · exact hdi
        · simp only [distinct, Bool.and_eq_true] at hdi; exact hdi.2
      have hfirst : ∀ e, (ops[x]?).bind (·.dst) = some e → e ∉ r.filterMap fun i => (ops[i]?).bind (·.dst) := by
        intro e hx hm
        rw [List.filterMap_cons] at hdi
        split at hdi
        · rename_i hn0; rw [hx] at hn0; cases hn0
        · rename_i e' he'
          rw [hx] at he'
          cases he'
          simp only [distinct, Bool.and_eq_true, Bool.not_eq_true', List.contains_eq_mem, decide_eq_false_iff_not] at hdi
          exact hdi.1 hm
      rcases List.mem_cons.1 hi with rfl | hi'
      · rcases List.mem_cons.1 hj with rfl | hj'
        · rfl
        · exact absurd (hmem j d hj' h2) (hfirst d h1)
      · rcases List.mem_cons.1 hj with rfl | hj'
        · exact absurd (hmem i d hi' h1) (hfirst d h2)
        · exact ih hrest hn.2 i j d hi' hj' h1 h2
  intro i j d hi hj
  exact key (List.range m) h List.nodup_range i j d (List.mem_range.2 hi) (List.mem_range.2 hj)
theorem wpList_one {o : Oper} {Q : Exit → Act → World → Prop} {a b : Act} {w : World} {ops : Array Oper} (hs : ∀ cs b, o.op ≠ .select cs b) (he : ∀ x ∈ o.op.operands, b.eval x = a.eval x) (hg : Region.wanted o (yielded ops b.tmps) = Region.wanted o (yielded ops a.tmps))
    {Q' : Exit → Act → World → Prop} (hn : ∀ v w', Q .normal (b.put o.dst v) w' → Q' .normal (a.put o.dst v) w') (hx : ∀ e a' w', e ≠ .normal → Q e a' w' → False) (hdf : ∀ (d : Deferred) w', Q .normal ({ b with defers := d :: b.defers }.put o.dst undef) w' → Q' .normal ({ a with defers := d :: a.defers }.put o.dst undef) w')
    (h : wpList P ops Q [o] b w) : wpList P ops Q' [o] a w := by
  unfold wpList at h ⊢
  rw [hg] at h
  split
  · rename_i hw
    rw [if_pos hw] at h
    have hop : execOp b.eval o = execOp a.eval o := execOp_congr o hs he
    rcases h with h | ⟨h1, a1, w1, h2⟩
    · left
      unfold Oper.wp at h ⊢
      rw [hop] at h
      generalize (execOp a.eval o).run P w = r at h ⊢
      unfold Oper.upon at h ⊢
      split at h
      · exact hn _ _ h
      · exact hn _ _ h
      · exact hdf _ _ h
      · refine h.mono fun e w' hq => ?_
        cases e with
        | returned v => exact hn _ _ hq
        | panicked ch => exact (hx _ _ _ (by simp) hq).elim
        | outgrown => obtain ⟨a1, w1, h1⟩ := hq; exact (hx _ _ _ (by simp) h1).elim
      · exact h.mono fun v w' hq => hn _ _ hq
      · exact (hx _ _ _ (by simp) h).elim
      · exact h.elim
    · exact (hx _ _ _ (by simp) h2).elim
  · rename_i hw
    rw [if_neg hw] at h
    exact hn _ _ h
/-- A frame in which what F tells is so. -/
def over (F : PF) (a : Act) : Act := { a with tmps := Array.ofFn (n := a.tmps.size) fun s => match F.get s with | some v => v | none => a.tmps[s] }
theorem over_get (F : PF) (a : Act) (s : Nat) : (over F a).tmps.getD s undef = match F.get s with | some v => if s < a.tmps.size then v else undef | none => a.tmps.getD s undef := by
  unfold over
  rw [Array.getD_eq_getD_getElem?]
  rcases Nat.lt_or_ge s a.tmps.size with h | h
  · simp only [Array.getElem?_ofFn, h, dite_true, if_true, Option.getD_some]
    split
    · rfl
    · rw [Array.getD_eq_getD_getElem?, Array.getElem?_eq_getElem h]; rfl
  · have : ¬ s < a.tmps.size := by omega
    simp only [Array.getElem?_ofFn, this, dite_false, Option.getD_none, if_false]
    split
    · rfl
    · rw [Array.getD_eq_getD_getElem?, Array.getElem?_eq_none h]; rfl
theorem over_fr {F : PF} {a : Act} (hs : a.tmps.size = n) (hd : a.defers = ds) (hF : ∀ s v, F.get s = some v → s < n) : Fr n ds F (over F a) := by
  refine ⟨by simp [over, hs], hd, fun i v hv => ?_⟩
  have hi := hF i v hv
  refine ⟨?_, hi⟩
  rw [over_get, hv]
  simp [hs, hi]

theorem ob_of_G {m : Nat} {fx : List (Option Value)} {GF : (Nat → Value) → PF} {W : World → Prop} {R : Nat → Value → World → Prop} {E : Nat → World → Value → Prop} {AL : List (Nat × Nat × Option Nat)} {CL : List (Nat × Nat)} {Pr : Nat → World → Prop} (hmle : m ≤ ops.size)
    (hGF : ∀ u, dstL ops (fxU fx u) 0 m ++ F = GF u) (hdep : depOk ops m = true) (hgb : guardsBack ops m = true) (hdis : distinct (dsts ops m) = true) (hdn : ∀ i d, i < m → (ops[i]?).bind (·.dst) = some d → d < n) {i : Nat} (him : i < m)
    (h : ObG P ops n ds fx GF W R E AL CL Pr i) : Ob P ops Q n ds m F W (RX fx R) E AL CL Pr i := by
  intro u w hW hPr hR hA a ha
  have huniq := distinct_uniq hdis
  have hio : ops[i]? = some ops[i] := Array.getElem?_eq_getElem (by omega)
  have hdo : notSelect ops[i] = true ∧ ∀ t ∈ opTmps ops[i] ++ guardTmp ops ops[i], (dpreds ops i).any (fun j => Nat.blt j m && dstOf ops j == some t) = true ∨ ((List.range m).all fun j => dstOf ops j != some t) = true := by
    unfold depOk at hdep
    rw [List.all_eq_true] at hdep
    have := hdep i (List.mem_range.2 him)
    rw [hio] at this
    simp only [Bool.and_eq_true] at this
    refine ⟨this.1, fun t ht => ?_⟩
    have h2 := this.2
    rw [List.all_eq_true] at h2
    simpa [Bool.or_eq_true] using h2 t ht
  have hw := h u w hW hPr (fun j hj hn => by
    have := hR j hj
    unfold RX at this
    rw [hn] at this
    exact this) hA
  have hGlt : ∀ s v, (GF u).get s = some v → s < n := by
    intro s v hv
    rw [← hGF u, get_app] at hv
    split at hv
    · rename_i y hy
      obtain ⟨j, _, h2, h3, _⟩ := dstL_get m 0 hy
      exact hdn j s (by omega) h3
    · rename_i hy
      have : (dstL ops u 0 m ++ F).get s = some v := by
        rw [get_app]
        split
        · rename_i y2 hy2
          obtain ⟨j, _, h2, h3, _⟩ := dstL_get m 0 hy2
          rw [dstL_at huniq (by omega : j < m) h3] at hy
          cases hy
        · exact hv
      exact (ha.val s v this).2
  have hb := over_fr (ds := ds) ha.size ha.defers hGlt
  -- what the operation reads is the same
  have hsame : ∀ t ∈ opTmps ops[i] ++ guardTmp ops ops[i], (over (GF u) a).tmps.getD t undef = a.tmps.getD t undef := by
    intro t ht
    rw [over_get]
    split
    · rename_i v hv
      have htn : t < a.tmps.size := by rw [ha.size]; exact hGlt t v hv
      rw [if_pos htn]
      rw [← hGF u, get_app] at hv
      have hfr : ∀ x, (dstL ops u 0 m ++ F).get t = some x → a.tmps.getD t undef = x := fun x hx => (ha.val t x hx).1
      rcases hdo.2 t ht with hd | hd
      · rw [List.any_eq_true] at hd
        obtain ⟨j, hj, hjd⟩ := hd
        simp only [Bool.and_eq_true, beq_iff_eq] at hjd
        have hjm : j < m := by simpa [Nat.blt_eq] using hjd.1
        have hjs : (ops[j]?).bind (·.dst) = some t := hjd.2
        rw [dstL_at huniq hjm hjs] at hv
        simp only [Option.some.injEq] at hv
        have hx := hfr (u j) (by rw [get_app, dstL_at huniq hjm hjs])
        rw [hx, ← hv]
        unfold fxU
        cases hf : fx.getD j none with
        | none => rfl
        | some x =>
          have := hR j (.one (by simpa using hj))
          unfold RX at this
          rw [hf] at this
          simp [this]
      · have hno : ∀ u', (dstL ops u' 0 m).get t = none := by
          intro u'
          cases hg : (dstL ops u' 0 m).get t with
          | none => rfl
          | some y =>
            obtain ⟨j, _, h2, h3, _⟩ := dstL_get m 0 hg
            rw [List.all_eq_true] at hd
            have := hd j (List.mem_range.2 (by omega))
            simp only [dstOf, h3, bne_self_eq_false] at this
            cases this
        rw [hno] at hv
        exact (hfr v (by rw [get_app, hno]; exact hv)).symm
    · rfl
  have hext : (ops.extract 0 (i + 1)).toList.drop i = [ops[i]] := by
    rw [Array.toList_extract]
    simp only [List.extract_eq_take_drop, Nat.sub_zero, List.drop_zero]
    rw [List.take_succ_eq_append_getElem (by simp; omega), List.drop_append]
    simp [Nat.min_eq_left (Nat.le_of_lt (by omega : i < ops.size))]
  have hw := hw _ hb
  rw [hext] at hw ⊢
  have hsel : ∀ cs b, ops[i].op ≠ .select cs b := by
    intro cs b e
    have := hdo.1
    simp [notSelect, e] at this
  have heval : ∀ x ∈ ops[i].op.operands, (over (GF u) a).eval x = a.eval x := by
    intro x hx
    cases x with
    | tmp t =>
      refine hsame t (List.mem_append_left _ ?_)
      unfold opTmps
      rw [List.mem_filterMap]
      exact ⟨.tmp t, by simpa using hx, rfl⟩
    | const v => rfl
    | global g => rfl
    | func f => rfl
  have hwant : Region.wanted ops[i] (yielded (ops.extract 0 (i + 1)) (over (GF u) a).tmps) = Region.wanted ops[i] (yielded (ops.extract 0 (i + 1)) a.tmps) := by
    unfold Region.wanted
    cases hg : ops[i].guard with
    | none => rfl
    | some gb =>
      obtain ⟨g, b⟩ := gb
      have hgi : g < i := by
        unfold guardsBack at hgb
        rw [List.all_eq_true] at hgb
        have := hgb i (List.mem_range.2 him)
        rw [hio] at this
        simp only [hg] at this
        simpa [Nat.blt_eq] using this
      have hge : (ops.extract 0 (i + 1))[g]? = ops[g]? := by
        rw [Array.getElem?_extract]
        simp only [Nat.sub_zero, Nat.zero_add]
        rw [if_pos (by omega)]
      have hy : yielded (ops.extract 0 (i + 1)) (over (GF u) a).tmps g = yielded (ops.extract 0 (i + 1)) a.tmps g := by
        unfold yielded
        rw [hge]
        cases hd : (ops[g]?).bind (·.dst) with
        | none => rfl
        | some d =>
          have h1 := hsame d (List.mem_append_right _ (by unfold guardTmp; rw [hg]; simp [dstOf, hd]))
          have hsz : (over (GF u) a).tmps.size = a.tmps.size := by simp [over]
          have h2 : (over (GF u) a).tmps[d]? = a.tmps[d]? := by
            rcases Nat.lt_or_ge d a.tmps.size with h | h
            · rw [Array.getD_eq_getD_getElem?, Array.getD_eq_getD_getElem?, Array.getElem?_eq_getElem (by omega), Array.getElem?_eq_getElem h] at h1
              rw [Array.getElem?_eq_getElem (by omega), Array.getElem?_eq_getElem h]
              simpa using h1
            · rw [Array.getElem?_eq_none (by omega), Array.getElem?_eq_none h]
          simp only [Option.bind_some, h2]
      simp only [hy]
  have hdst : dstOf ops i = ops[i].dst := by simp [dstOf, hio]
  refine wpList_one hsel heval hwant ?_ ?_ ?_ hw
  · rintro v w' ⟨hch, v', hf, hq⟩
    have ha2 : Fr n ds (upd (dstL ops u 0 m ++ F) (dstOf ops i) v') (a.put ops[i].dst v) := by
      cases hd : ops[i].dst with
      | none => rw [hdst, hd]; exact ha
      | some d =>
        have hdn' : d < n := hdn i d him (by rw [hio]; simpa using hd)
        have hvv : v = v' := by
          rw [hdst, hd] at hf
          have := (hf.val d v' (by simp [upd, PF.get])).1
          simp only [Act.put] at this
          rw [Array.getD_eq_getD_getElem?, Array.getElem?_setIfInBounds_self_of_lt (by rw [hb.size]; exact hdn')] at this
          simpa using this
        subst hvv
        rw [hdst, hd]
        exact ha.upd (by simp [okDst, Nat.blt_eq, hdn']) v
    exact ⟨hch, v', ha2, hq⟩
  · intro e a' w' he hq
    cases e <;> first | exact absurd rfl he | exact hq.elim
  · rintro d w' ⟨_, v', hf, _⟩
    have := hf.defers
    have h2 : ({ over (GF u) a with defers := d :: (over (GF u) a).defers }.put ops[i].dst undef).defers = d :: (over (GF u) a).defers := by
      cases ops[i].dst <;> rfl
    rw [h2] at this
    have h3 : (over (GF u) a).defers = ds := ha.defers
    rw [h3] at this
    exact absurd (congrArg List.length this) (by simp)

theorem CW.regionG {id : Nat} (m : Nat) (fx : List (Option Value)) (GF : (Nat → Value) → PF) (hGF : ∀ u, dstL ops (fxU fx u) 0 m ++ F = GF u) (hdep : depOk ops m = true) (CL : List (Nat × Nat)) (Pr : Nat → World → Prop) (hPr0 : ∀ j, Pr j { w with drawn := w.drawn + 1 }) (hPr : ∀ i j w w', i ≠ j → Pr j w → Chg (cL CL i) w w' → Pr j w') (FS : List Nat) (AL : List (Nat × Nat × Option Nat)) (hAL : (AL.all fun p => (dpreds ops p.1).contains p.2.1) = true) (W : World → Prop) (R : Nat → Value → World → Prop) (hOld : ∀ j x w, FS.contains j = true → R j x w → adOf x = none ∨ bk (adOf x) < w.heap.size) (hFS : (FS.all fun j => (fx.getD j none).isNone) = true) (hm : P.follows .mixedOrders = true) (hsuf : (Nat.ble m ops.size && (sufOk ops m && (distinct (dsts ops m) && (edgesBack ops && guardsBack ops m)))) = true)
    (hd : (dsts ops m).all (fun d => Nat.blt d n) = true) (hW0 : W { w with drawn := w.drawn + 1 }) (hW : ∀ i w w', W w → Chg (cL CL i) w w' → W w') (hR : ∀ i j v w w', i ≠ j → R j v w → Chg (cL CL i) w w' → R j v w')
    (ob : ObsG P ops n ds fx GF W R (fun i wq v => FS.contains i = true → adOf v = none ∨ wq.heap.size ≤ bk (adOf v)) AL CL Pr 0 m)
    (K : ∀ u w, W w → (∀ j, j < m → fx.getD j none = none → R j (u j) w) → (∀ j k, j < m → k < m → j ≠ k → FS.contains j = true → FS.contains k = true → Apart (adOf (u j)) (adOf (u k))) → (∀ p ∈ AL, p.1 < m → u p.1 = prj p.2.2 (u p.2.1)) → WR P ops Q m n ds (GF u) w) : CW P (.region id ops true) Q n ds F w := by
  have hsuf' := hsuf
  simp only [Bool.and_eq_true] at hsuf'
  obtain ⟨hmle, _, hdis, _, hgb⟩ := hsuf'
  have hmle := Nat.le_of_ble_eq_true hmle
  have hdn : ∀ i d, i < m → (ops[i]?).bind (·.dst) = some d → d < n := by
    intro i d hi hb
    rw [List.all_eq_true] at hd
    have := hd d (by unfold dsts; rw [List.mem_filterMap]; exact ⟨i, List.mem_range.2 hi, hb⟩)
    simpa [Nat.blt_eq] using this
  have hnone : ∀ j, FS.contains j = true → fx.getD j none = none := by
    intro j hj
    rw [List.all_eq_true] at hFS
    simpa using hFS j (by simpa using hj)
  have conv : ∀ (f i : Nat), i + f ≤ m → ObsG P ops n ds fx GF W R (fun i wq v => FS.contains i = true → adOf v = none ∨ wq.heap.size ≤ bk (adOf v)) AL CL Pr i f → Obs P ops Q n ds m F W (RX fx R) (fun i wq v => FS.contains i = true → adOf v = none ∨ wq.heap.size ≤ bk (adOf v)) AL CL Pr i f := by
    intro f
    induction f with
    | zero => intro i _ _; trivial
    | succ f ih =>
      intro i hi h
      exact ⟨ob_of_G hmle hGF hdep hgb hdis hdn (by omega) h.1, ih (i + 1) (by omega) h.2⟩
  refine CW.regionF m CL Pr hPr0 hPr FS AL hAL W (RX fx R) ?_ hm hsuf hd hW0 hW ?_ (conv m 0 (by omega) ob) ?_
  · intro j x w hj hx
    unfold RX at hx
    rw [hnone j hj] at hx
    exact hOld j x w hj hx
  · intro i j v w w' hij hv hc
    unfold RX at hv ⊢
    split
    · rename_i x hx; rw [hx] at hv; exact hv
    · rename_i hx; rw [hx] at hv; exact hR i j v w w' hij hv hc
  · intro u w hWw hr hap hal a ha
    refine K u w hWw (fun j hj hn => by have := hr j hj; unfold RX at this; rw [hn] at this; exact this) hap hal a ?_
    rw [← hGF u]
    have : ∀ (f i : Nat), i + f ≤ m → dstL ops (fxU fx u) i f = dstL ops u i f := by
      intro f
      induction f with
      | zero => intro i _; rfl
      | succ f ih =>
        intro i hi
        have he : fxU fx u i = u i := by
          have := hr i (by omega)
          unfold RX at this
          unfold fxU
          cases hf : fx.getD i none with
          | none => rfl
          | some x => rw [hf] at this; simp [this]
        unfold dstL
        rw [ih (i + 1) (by omega), he]
    rw [this m 0 (by omega)]
    exact ha
/-- Operations that only reckon, all at once. -/
theorem obsG_batch {fx : List (Option Value)} {GF : (Nat → Value) → PF} {W : World → Prop} {R : Nat → Value → World → Prop} {FS : List Nat} {AL : List (Nat × Nat × Option Nat)} {CL : List (Nat × Nat)} {Pr : Nat → World → Prop} : ∀ (k : Nat) (i f : Nat),
    (∀ u w, (List.range' i k).map (fun j => decRun P (ops.extract 0 (j + 1)) j n (GF u) w) = (List.range' i k).map (fun j => some (dstOf ops j, .ok (.value ((fx.getD j none).getD undef)) w))) →
    ((List.range' i k).all fun j => (fx.getD j none).isSome && (!FS.contains j && AL.all fun p => p.1 != j)) = true →
    ObsG P ops n ds fx GF W R (fun i wq v => FS.contains i = true → adOf v = none ∨ wq.heap.size ≤ bk (adOf v)) AL CL Pr (i + k) f → ObsG P ops n ds fx GF W R (fun i wq v => FS.contains i = true → adOf v = none ∨ wq.heap.size ≤ bk (adOf v)) AL CL Pr i (k + f)
  | 0, i, f, _, _, h => by simpa using h
  | k + 1, i, f, he, hc, h => by
    rw [Nat.add_right_comm k 1 f]
    simp only [List.range'_succ, List.map_cons, List.cons.injEq, List.all_cons, Bool.and_eq_true] at he hc
    refine ⟨?_, obsG_batch k (i + 1) f (fun u w => (he u w).2) hc.2 (by rw [Nat.add_assoc, Nat.add_comm 1 k]; exact h)⟩
    intro u w _ _ _ _
    obtain ⟨⟨h1, h2, h3⟩, _⟩ := hc
    obtain ⟨x, hx⟩ := Option.isSome_iff_exists.1 h1
    have hr := (he u w).1
    rw [hx] at hr
    refine WR.valR hr fun a ha => ?_
    have hnil : (ops.extract 0 (i + 1)).toList.drop (i + 1) = [] := List.drop_eq_nil_of_le (by simp; omega)
    rw [hnil]
    refine ⟨Chg.refl _ _, x, ha, ⟨fun h => ?_, alNone h3⟩, ?_⟩
    · simp only [Bool.not_eq_true'] at h2; rw [h2] at h; cases h
    · unfold RX; rw [hx]
end
end Go.V
