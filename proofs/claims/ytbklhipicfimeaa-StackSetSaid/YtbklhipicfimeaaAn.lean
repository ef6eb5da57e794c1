/- A region that draws its order, in which each operation may be done in any order that its edges let: one obligation an operation. Nothing here is about one program. -/
import Derived.Test.YtbklhipicfimeaaDf
import Derived.Test.YtbklhipicfimeaaSl
namespace Go.V
open Go.RowKit
section
variable {P : Program} {ops : Array Oper} {Q : Exit → Act → World → Prop} {n : Nat} {ds : List Deferred} {F : PF} {w : World}

theorem WR.pass1 {k : Nat} {dst : Option Tmp} (h : passDst ops k n F = some dst) (K : WR P ops Q (k + 1) n ds (upd F dst undef) w) : WR P ops Q k n ds F w := by
  unfold passDst at h
  split at h
  · rename_i o ho
    split at h
    · rename_i hw
      split at h
      · rename_i hd
        simp only [Option.some.injEq] at h
        subst h
        intro a ha
        rw [drop_of_get ho]
        unfold wpList
        rw [if_neg (by rw [wants_spec ha hw]; simp)]
        exact K _ (ha.upd hd undef)
      · cases h
    · cases h
  · cases h
theorem Fr.cast {F' : PF} {a : Act} (h : Fr n ds F a) (e : F = F') : Fr n ds F' a := e ▸ h
theorem WR.skipR {k : Nat} {dst : Option Tmp} {w' : World} (hr : decRun P ops k n F w = some (dst, .ok .skip w')) (K : WR P ops Q (k + 1) n ds (upd F dst undef) w') : WR P ops Q k n ds F w := by
  obtain ⟨o, hd, rfl, hrun⟩ := decRun_spec hr
  exact .skip hd hrun K
/-- the operations that this one waits for. -/
def dpreds (ops : Array Oper) (i : Nat) : List Nat := match ops[i]? with | some o => (o.after.toList.filter fun e => Region.binds .any e).map (·.on) | none => []
/-- From m on each operation waits for all ahead of it. -/
def sufOk (ops : Array Oper) (m : Nat) : Bool := (List.range' m (ops.size - m)).all fun j => (List.range j).all fun i => (dpreds ops j).contains i
/-- what the first m operations write. -/
def dstL (ops : Array Oper) (u : Nat → Value) : Nat → Nat → PF
  | _, 0 => []
  | i, m + 1 => match (ops[i]?).bind (·.dst) with | some d => (d, u i) :: dstL ops u (i + 1) m | none => dstL ops u (i + 1) m
def dsts (ops : Array Oper) (m : Nat) : List Nat := (List.range m).filterMap fun i => (ops[i]?).bind (·.dst)
def distinct : List Nat → Bool | [] => true | a :: r => !r.contains a && distinct r

/-- Edges and guards lead back. -/
def edgesBack (ops : Array Oper) : Bool := (List.range ops.size).all fun i => (dpreds ops i).all fun j => Nat.blt j i
def guardsBack (ops : Array Oper) (m : Nat) : Bool := (List.range m).all fun i => match ops[i]? with | some o => (match o.guard with | some (g, _) => Nat.blt g i | none => true) | none => true
theorem dstL_get {u : Nat → Value} {s : Nat} {x : Value} : ∀ (m i : Nat), (dstL ops u i m).get s = some x → ∃ j, i ≤ j ∧ j < i + m ∧ (ops[j]?).bind (·.dst) = some s ∧ x = u j
  | 0, i, h => by simp [dstL, PF.get] at h
  | m + 1, i, h => by
    unfold dstL at h
    split at h
    · rename_i d hd
      simp only [PF.get] at h
      split at h
      · rename_i hb
        have := Nat.eq_of_beq_eq_true hb
        subst this
        exact ⟨i, Nat.le_refl _, by omega, hd, by simpa using h.symm⟩
      · obtain ⟨j, h1, h2, h3⟩ := dstL_get m (i + 1) h
        exact ⟨j, by omega, by omega, h3⟩
    · obtain ⟨j, h1, h2, h3⟩ := dstL_get m (i + 1) h
      exact ⟨j, by omega, by omega, h3⟩
theorem get_app (A B : PF) (s : Nat) : (A ++ B).get s = match A.get s with | some v => some v | none => PF.get B s := by
  induction A with
  | nil => simp [PF.get]
  | cons p r ih =>
    obtain ⟨j, v⟩ := p
    simp only [List.cons_append, PF.get]
    split <;> simp_all

/-- One operation's end: it leaves v, of which R holds, and nothing that was there has turned. -/
def Nd (Q : Exit → Act → World → Prop) (n : Nat) (ds : List Deferred) (F : PF) (dst : Option Tmp) (w : World) (R : Value → World → Prop) : Exit → Act → World → Prop
  | .normal, a, w' => Chg [] w w' ∧ ∃ v, Fr n ds (upd F dst v) a ∧ R v w'
  | e, a, w' => Q e a w'
def dstOf (ops : Array Oper) (i : Nat) : Option Tmp := (ops[i]?).bind (·.dst)
/-- what is asked of operation i. -/
def Ob (P : Program) (ops : Array Oper) (Q : Exit → Act → World → Prop) (n : Nat) (ds : List Deferred) (m : Nat) (B : PF) (W : World → Prop) (R : Nat → Value → World → Prop) (E : Nat → World → Value → Prop) (AL : List (Nat × Nat)) (i : Nat) : Prop :=
  ∀ (u : Nat → Value) (w : World), W w → (∀ j, (dpreds ops i).contains j = true → R j (u j) w) → WR P (ops.extract 0 (i + 1)) (Nd Q n ds (dstL ops u 0 m ++ B) (dstOf ops i) w (fun v w' => (E i w v ∧ ∀ p ∈ AL, p.1 = i → v = u p.2) ∧ R i v w')) i n ds (dstL ops u 0 m ++ B) w
def Obs (P : Program) (ops : Array Oper) (Q : Exit → Act → World → Prop) (n : Nat) (ds : List Deferred) (m : Nat) (B : PF) (W : World → Prop) (R : Nat → Value → World → Prop) (E : Nat → World → Value → Prop) (AL : List (Nat × Nat)) : Nat → Nat → Prop
  | _, 0 => True
  | i, f + 1 => Ob P ops Q n ds m B W R E AL i ∧ Obs P ops Q n ds m B W R E AL (i + 1) f
theorem obs_get {m : Nat} {B : PF} {W : World → Prop} {R : Nat → Value → World → Prop} {E : Nat → World → Value → Prop} {AL : List (Nat × Nat)} : ∀ (f i : Nat), Obs P ops Q n ds m B W R E AL i f → ∀ j, i ≤ j → j < i + f → Ob P ops Q n ds m B W R E AL j
  | 0, i, _, j, h1, h2 => by omega
  | f + 1, i, h, j, h1, h2 => by
    by_cases hj : j = i
    · subst hj; exact h.1
    · exact obs_get f (i + 1) h.2 j (by omega) (by omega)

theorem wpAny_inv {md : Region.Mode} (I : Array Bool → Act → World → Prop)
    (step : ∀ listed a w i, I listed a w → i ∈ Region.ready md ops listed → wpOp P ops Q i (I (listed.setIfInBounds i true)) a w)
    (fin : ∀ listed a w, I listed a w → Region.ready md ops listed = [] → Q .normal a w) :
    ∀ (fuel : Nat) (listed : Array Bool) (a : Act) (w : World), (listed.size = ops.size ∧ (listed.toList.filter (· == false)).length ≤ fuel) → I listed a w → wpAny P md ops Q fuel listed a w
  | 0, listed, a, w, hl, hI => by
    have hr : Region.ready md ops listed = [] := by
      unfold Region.ready
      rw [List.filter_eq_nil_iff]
      intro i hi
      have hlt : i < listed.size := by rw [hl.1]; simpa using hi
      have : listed[i] = true := by
        cases hb : listed[i] with
        | true => rfl
        | false =>
          have : listed[i] ∈ listed.toList.filter (· == false) := by
            rw [List.mem_filter]; exact ⟨by simp, by simp [hb]⟩
          have h0 := List.length_pos_of_mem this
          omega
      simp [this, hlt]
    exact ⟨hr, fin listed a w hI hr⟩
  | fuel + 1, listed, a, w, hl, hI => by
    refine ⟨fun hr => fin listed a w hI hr, fun i hi => wpOp_mono (fun a' w' hI' => wpAny_inv I step fin fuel _ a' w' ?_ hI') (step listed a w i hI hi)⟩
    have hmem : i < ops.size ∧ listed.getD i true = false := by
      unfold Region.ready at hi
      rw [List.mem_filter] at hi
      refine ⟨by simpa using hi.1, ?_⟩
      have := hi.2
      rw [Bool.and_eq_true] at this
      simpa using this.1
    refine ⟨by simpa using hl.1, ?_⟩
    have hlt : i < listed.size := by rw [hl.1]; exact hmem.1
    have hfalse : listed[i] = false := by
      have := hmem.2
      simpa [hlt] using this
    have key : ∀ (l : List Bool) (i : Nat) (h : i < l.length), l[i] = false → ((l.set i true).filter (· == false)).length + 1 = (l.filter (· == false)).length := by
      intro l
      induction l with
      | nil => intro i h; simp at h
      | cons b r ih =>
        intro i h hb
        cases i with
        | zero => simp at hb; subst hb; simp
        | succ i =>
          have := ih i (by simpa using h) (by simpa using hb)
          cases b <;> simp_all <;> omega
    have := key listed.toList i (by simpa using hlt) (by simpa using hfalse)
    have e : (listed.setIfInBounds i true).toList = listed.toList.set i true := by simp
    rw [e]; omega

theorem CW.regionN {id : Nat} (m : Nat) (W : World → Prop) (R : Nat → Value → World → Prop) (E : Nat → World → Value → Prop) (AL : List (Nat × Nat)) (hAL : (AL.all fun p => (dpreds ops p.1).contains p.2) = true) (D : Nat → Nat → Value → Value → Prop) (hD : ∀ i j wq wq' v x, i ≠ j → E i wq v → R i v wq' → R j x wq → D i j v x ∧ D j i x v) (hm : P.follows .mixedOrders = true) (hsuf : (Nat.ble m ops.size && (sufOk ops m && (distinct (dsts ops m) && (edgesBack ops && guardsBack ops m)))) = true)
    (hd : (dsts ops m).all (fun d => Nat.blt d n) = true) (hW0 : W { w with drawn := w.drawn + 1 }) (hW : ∀ w w', W w → Chg [] w w' → W w') (hR : ∀ i v w w', R i v w → Chg [] w w' → R i v w')
    (ob : Obs P ops Q n ds m F W R E AL 0 m)
    (K : ∀ u w, W w → (∀ j, j < m → R j (u j) w) → (∀ j k, j < m → k < m → j ≠ k → D j k (u j) (u k)) → (∀ p ∈ AL, p.1 < m → u p.1 = u p.2) → WR P ops Q m n ds (dstL ops u 0 m ++ F) w) : CW P (.region id ops true) Q n ds F w := by
  intro a ha
  simp only [Bool.and_eq_true] at hsuf
  obtain ⟨hmle, hsuf, hdis, hback, hgb⟩ := hsuf
  have hmle := Nat.le_of_ble_eq_true hmle
  have hdn : ∀ i d, i < m → (ops[i]?).bind (·.dst) = some d → d < n := by
    intro i d hi hb
    rw [List.all_eq_true] at hd
    have := hd d (by unfold dsts; rw [List.mem_filterMap]; exact ⟨i, List.mem_range.2 hi, hb⟩)
    simpa [Nat.blt_eq] using this
  -- two operations that write one slot are one
  have huniq : ∀ i j d, i < m → j < m → (ops[i]?).bind (·.dst) = some d → (ops[j]?).bind (·.dst) = some d → i = j := by
    have key : ∀ (l : List Nat), distinct (l.filterMap fun i => (ops[i]?).bind (·.dst)) = true → l.Nodup → ∀ i j d, i ∈ l → j ∈ l → (ops[i]?).bind (·.dst) = some d → (ops[j]?).bind (·.dst) = some d → i = j := by
      intro l
      induction l with
      | nil => intro _ _ i j d hi; simp at hi
      | cons x r ih =>
        intro hdi hn i j d hi hj h1 h2
        rw [List.nodup_cons] at hn
        have hmem : ∀ y e, y ∈ r → (ops[y]?).bind (·.dst) = some e → e ∈ r.filterMap fun i => (ops[i]?).bind (·.dst) := fun y e hy he => List.mem_filterMap.2 ⟨y, hy, he⟩
        have hrest : distinct (r.filterMap fun i => (ops[i]?).bind (·.dst)) = true := by
          rw [List.filterMap_cons] at hdi
          split at hdi
          · exact hdi
          · simp only [distinct, Bool.and_eq_true] at hdi; exact hdi.2
        have hfirst : ∀ e, (ops[x]?).bind (·.dst) = some e → e ∉ r.filterMap fun i => (ops[i]?).bind (·.dst) := by
          intro e hx hm
          rw [List.filterMap_cons] at hdi
          split at hdi
          · rename_i hn0; rw [hx] at hn0; cases hn0
          · rename_i e' he'
            rw [hx] at he'
            cases he'
            simp only [distinct, Bool.and_eq_true, Bool.not_eq_true', List.contains_eq_mem, decide_eq_false_iff_not] at hdi
            exact hdi.1 hm
        rcases List.mem_cons.1 hi with rfl | hi'
        · rcases List.mem_cons.1 hj with rfl | hj'
          · rfl
          · exact absurd (hmem j d hj' h2) (hfirst d h1)
        · rcases List.mem_cons.1 hj with rfl | hj'
          · exact absurd (hmem i d hi' h1) (hfirst d h2)
          · exact ih hrest hn.2 i j d hi' hj' h1 h2
    intro i j d hi hj
    exact key (List.range m) hdis List.nodup_range i j d (List.mem_range.2 hi) (List.mem_range.2 hj)
  let I : Array Bool → Act → World → Prop := fun listed a w => listed.size = ops.size ∧
    (((∀ j, m ≤ j → listed.getD j true = false ∨ ops.size ≤ j) ∧ W w ∧ ∃ u, Fr n ds (dstL ops u 0 m ++ F) a ∧ (∀ j, j < m → listed.getD j false = true → R j (u j) w) ∧ (∀ j k, j < m → k < m → j ≠ k → listed.getD j false = true → listed.getD k false = true → D j k (u j) (u k)) ∧ (∀ p ∈ AL, p.1 < m → listed.getD p.1 false = true → listed.getD p.2 false = true ∧ u p.1 = u p.2)) ∨
     (∃ k, m < k ∧ k ≤ ops.size ∧ (∀ j, j < k → listed.getD j false = true) ∧ (∀ j, k ≤ j → listed.getD j true = false ∨ ops.size ≤ j) ∧ wpList P ops Q (ops.toList.drop k) a w))
  have sufd : ∀ j, m ≤ j → j < ops.size → ∀ i, i < j → (dpreds ops j).contains i = true := by
    intro j h1 h2 i hi
    unfold sufOk at hsuf
    rw [List.all_eq_true] at hsuf
    have := hsuf j (by rw [List.mem_range'_1]; omega)
    rw [List.all_eq_true] at this
    exact this i (List.mem_range.2 hi)
  have readyd : ∀ (listed : Array Bool) i, i ∈ Region.ready .any ops listed → i < ops.size ∧ listed.getD i true = false ∧ ∀ j, (dpreds ops i).contains j = true → listed.getD j false = true := by
    intro listed i hi
    unfold Region.ready at hi
    rw [List.mem_filter] at hi
    have hlt : i < ops.size := by simpa using hi.1
    have h2 := hi.2
    rw [Bool.and_eq_true] at h2
    refine ⟨hlt, by simpa using h2.1, fun j hj => ?_⟩
    unfold dpreds at hj
    rw [Array.getElem?_eq_getElem hlt] at hj h2
    simp only [List.contains_eq_mem, decide_eq_true_eq, List.mem_map, List.mem_filter] at hj
    obtain ⟨e, ⟨he, hb⟩, rfl⟩ := hj
    have h3 := h2.2
    simp only [Option.map_some, Option.getD_some, Array.all_eq_true'] at h3
    have := h3 e (by simpa using he)
    rw [hb] at this
    simpa using this
  have readyI : ∀ (listed : Array Bool) i, i < ops.size → listed.getD i true = false → (∀ j, (dpreds ops i).contains j = true → listed.getD j false = true) → i ∈ Region.ready .any ops listed := by
    intro listed i hlt h1 h2
    unfold Region.ready
    rw [List.mem_filter]
    refine ⟨by simpa using hlt, ?_⟩
    rw [Array.getElem?_eq_getElem hlt, h1]
    simp only [Bool.not_false, Bool.true_and, Option.map_some, Option.getD_some, Array.all_eq_true']
    intro e he
    cases hb : Region.binds .any e with
    | false => rfl
    | true =>
      have := h2 e.on (by
        unfold dpreds
        rw [Array.getElem?_eq_getElem hlt]
        simp only [List.contains_eq_mem, decide_eq_true_eq, List.mem_map, List.mem_filter]
        exact ⟨e, ⟨by simpa using he, hb⟩, rfl⟩)
      rw [this]; rfl
  refine wp_region_any hm (wpAny_inv I ?_ ?_ ops.size _ a _ ⟨by simp, by simp⟩ ⟨by simp, .inl ⟨fun j hj => ?_, hW0, fun i => a.tmps.getD ((dstOf ops i).getD 0) undef, ⟨ha.size, ha.defers, ?_⟩, fun j hj hl => ?_, fun j k hj hk hjk hl _ => ?_, fun pr _ _ hl => ?_⟩⟩)
  · -- a step
    intro listed a w i hI hi
    obtain ⟨hilt, hil, hip⟩ := readyd listed i hi
    obtain ⟨hls, hI⟩ := hI
    have hset : ∀ j d, (listed.setIfInBounds i true).getD j d = if j = i then true else listed.getD j d := by
      intro j d
      rw [Array.getD_eq_getD_getElem?, Array.getElem?_setIfInBounds]
      split
      · rename_i h; subst h; simp [hls, hilt]
      · rename_i h; rw [if_neg (fun e => h e.symm), ← Array.getD_eq_getD_getElem?]
    rcases hI with ⟨hsufI, hWw, u, hfr, hRs, hDs, hAs⟩ | ⟨k, hmk, hkn, hdone, hrest, hwl⟩
    · by_cases him : i < m
      · -- one of the first m
        have hOb := obs_get m 0 ob i (Nat.zero_le _) (by omega) u w hWw (fun j hj => by
          have hjl := hip j hj
          have hjlt : j < ops.size := by
            rcases Nat.lt_or_ge j listed.size with h | h
            · rw [← hls]; exact h
            · rw [Array.getD_eq_getD_getElem?, Array.getElem?_eq_none h] at hjl; cases hjl
          have hjm : j < m := by
            rcases Nat.lt_or_ge j m with h | h
            · exact h
            · rcases hsufI j h with h' | h'
              · rw [Array.getD_eq_getD_getElem?] at h' hjl
                rw [Array.getElem?_eq_getElem (by omega)] at h' hjl
                simp at h' hjl
                rw [h'] at hjl; cases hjl
              · omega
          exact hRs j hjm hjl)
        have hw := hOb a hfr
        have hext : (ops.extract 0 (i + 1)).toList.drop i = [ops[i]] := by
          rw [Array.toList_extract]
          simp only [List.extract_eq_take_drop, Nat.sub_zero, List.drop_zero]
          rw [List.take_succ_eq_append_getElem (by simpa using hilt), List.drop_append]
          simp [Nat.min_eq_left (Nat.le_of_lt hilt)]
        rw [hext] at hw
        have hio : ops[i]? = some ops[i] := Array.getElem?_eq_getElem hilt
        have hyi : ∀ (o : Oper), Region.wanted o (yielded (ops.extract 0 (i + 1)) a.tmps) = Region.wanted o (yielded (ops.extract 0 (i + 1)) a.tmps) := fun _ => rfl
        have hdO : dstOf ops i = ops[i].dst := by simp [dstOf, hio]
        -- what the operation leaves is kept by the invariant
        have leave : ∀ a' w', Nd Q n ds (dstL ops u 0 m ++ F) (dstOf ops i) w (fun v w' => (E i w v ∧ ∀ p ∈ AL, p.1 = i → v = u p.2) ∧ R i v w') .normal a' w' → I (listed.setIfInBounds i true) a' w' := by
          rintro a' w' ⟨hch, v, hf', ⟨hEv, hAv⟩, hRv⟩
          refine ⟨by simpa using hls, .inl ⟨fun j hj => ?_, hW w w' hWw hch, fun j => if j = i then v else u j, ⟨hf'.size, hf'.defers, ?_⟩, fun j hj hl => ?_, fun j k hj hk hjk hl hl2 => ?_, fun pr hp hpm hl => ?_⟩⟩
          · rw [hset]
            rw [if_neg (by omega)]; exact hsufI j hj
          · intro s x hx
            rw [get_app] at hx
            split at hx
            · rename_i y hy
              simp only [Option.some.injEq] at hx
              subst hx
              obtain ⟨j, h1, h2, h3, rfl⟩ := dstL_get m 0 hy
              by_cases hji : j = i
              · subst hji
                simp only [if_true]
                have : (upd (dstL ops u 0 m ++ F) (dstOf ops j) v).get s = some v := by
                  unfold dstOf; rw [h3]; simp [upd, PF.get]
                exact hf'.val s v this
              · rw [if_neg hji]
                have hne : dstOf ops i ≠ some s := fun e => hji (huniq j i s (by omega) him h3 e)
                have hj : ∀ (m' k : Nat), k ≤ j → j < k + m' → m' + k ≤ m → (dstL ops u k m').get s = some (u j) := by
                  intro m'
                  induction m' with
                  | zero => intro k h1 h2; omega
                  | succ m' ih =>
                    intro k h1 h2 h4
                    unfold dstL
                    by_cases hkj : k = j
                    · subst hkj; rw [h3]; simp [PF.get]
                    · split
                      · rename_i d hd
                        simp only [PF.get]
                        split
                        · rename_i hb
                          have := Nat.eq_of_beq_eq_true hb
                          subst this
                          exact absurd (huniq k j d (by omega) (by omega) hd h3) hkj
                        · exact ih (k + 1) (by omega) (by omega) (by omega)
                      · exact ih (k + 1) (by omega) (by omega) (by omega)
                refine hf'.val s (u j) ?_
                have e1 : (dstL ops u 0 m ++ F).get s = some (u j) := by
                  rw [get_app, hj m 0 (Nat.zero_le _) (by omega) (by omega)]
                unfold upd
                split
                · rename_i d hd
                  simp only [PF.get]
                  split
                  · rename_i hb
                    have := Nat.eq_of_beq_eq_true hb
                    subst this
                    exact absurd hd hne
                  · exact e1
                · exact e1
            · rename_i hy
              -- the slot is none of the m, or i's own is hidden by F
              have hnot : ∀ j, j < m → (ops[j]?).bind (·.dst) ≠ some s := by
                intro j hj hs
                have hj' : ∀ (m' k : Nat), k ≤ j → j < k + m' → (dstL ops (fun j => if j = i then v else u j) k m').get s ≠ none := by
                  intro m'
                  induction m' with
                  | zero => intro k h1 h2; omega
                  | succ m' ih =>
                    intro k h1 h2
                    unfold dstL
                    by_cases hkj : k = j
                    · subst hkj; rw [hs]; simp [PF.get]
                    · split
                      · simp only [PF.get]
                        split
                        · simp
                        · exact ih (k + 1) (by omega) (by omega)
                      · exact ih (k + 1) (by omega) (by omega)
                exact hj' m 0 (Nat.zero_le _) (by omega) hy
              refine hf'.val s x ?_
              have hne : dstOf ops i ≠ some s := hnot i him
              have e1 : (dstL ops u 0 m ++ F).get s = some x := by
                rw [get_app]
                split
                · rename_i z hz
                  obtain ⟨j, _, h2, h3, _⟩ := dstL_get m 0 hz
                  exact absurd h3 (hnot j (by omega))
                · exact hx
              unfold upd
              split
              · rename_i d hd
                simp only [PF.get]
                split
                · rename_i hb
                  have := Nat.eq_of_beq_eq_true hb
                  subst this
                  exact absurd hd hne
                · exact e1
              · exact e1
          · rw [hset] at hl
            by_cases hji : j = i
            · subst hji; simpa using hRv
            · rw [if_neg hji] at hl
              simp only [if_neg hji]
              exact hR j (u j) w w' (hRs j hj hl) hch
          · rw [hset] at hl hl2
            by_cases hji : j = i
            · subst hji
              rw [if_neg (fun e => hjk e.symm)] at hl2
              simp only [if_true, if_neg (fun e => hjk (Eq.symm e) : ¬ k = j)]
              exact (hD j k w w' v (u k) hjk hEv hRv (hRs k hk hl2)).1
            · rw [if_neg hji] at hl
              by_cases hki : k = i
              · subst hki
                simp only [if_true, if_neg hji]
                exact (hD k j w w' v (u j) (Ne.symm hjk) hEv hRv (hRs j hj hl)).2
              · rw [if_neg hki] at hl2
                simp only [if_neg hji, if_neg hki]
                exact hDs j k hj hk hjk hl hl2
          · have hdep : (dpreds ops pr.1).contains pr.2 = true := by rw [List.all_eq_true] at hAL; exact hAL pr hp
            rw [hset] at hl
            by_cases hpi : pr.1 = i
            · have hs2 : listed.getD pr.2 false = true := hip pr.2 (by rw [← hpi]; exact hdep)
              have hne : ¬ pr.2 = i := by
                intro e
                rw [e] at hs2
                rw [Array.getD_eq_getD_getElem?] at hs2 hil
                rw [Array.getElem?_eq_getElem (by omega)] at hs2 hil
                simp at hs2 hil
                rw [hs2] at hil; cases hil
              rw [hset, if_neg hne]
              exact ⟨hs2, by simp only [hpi, if_true, if_neg hne]; exact hAv pr hp hpi⟩
            · rw [if_neg hpi] at hl
              obtain ⟨hs2, he⟩ := hAs pr hp hpm hl
              have hne : ¬ pr.2 = i := by
                intro e
                rw [e] at hs2
                rw [Array.getD_eq_getD_getElem?] at hs2 hil
                rw [Array.getElem?_eq_getElem (by omega)] at hs2 hil
                simp at hs2 hil
                rw [hs2] at hil; cases hil
              rw [hset, if_neg hne]
              exact ⟨hs2, by simp only [if_neg hpi, if_neg hne]; exact he⟩
        have hwant : Region.wanted ops[i] (yielded (ops.extract 0 (i + 1)) a.tmps) = Region.wanted ops[i] (yielded ops a.tmps) := by
          unfold Region.wanted
          cases hg : ops[i].guard with
          | none => rfl
          | some gb =>
            obtain ⟨g, b⟩ := gb
            have hgi : g < i := by
              unfold guardsBack at hgb
              rw [List.all_eq_true] at hgb
              have := hgb i (List.mem_range.2 him)
              rw [hio] at this
              simp only [hg] at this
              simpa [Nat.blt_eq] using this
            have : (ops.extract 0 (i + 1))[g]? = ops[g]? := by
              rw [Array.getElem?_extract]
              simp only [Nat.sub_zero, Nat.zero_add]
              rw [if_pos (by omega)]
            simp only [yielded, this]
        unfold wpOp
        rw [hio]
        simp only
        unfold wpList at hw
        have hnil : ∀ a' w', wpList P (ops.extract 0 (i + 1)) (Nd Q n ds (dstL ops u 0 m ++ F) (dstOf ops i) w (fun v w' => (E i w v ∧ ∀ p ∈ AL, p.1 = i → v = u p.2) ∧ R i v w')) [] a' w' → I (listed.setIfInBounds i true) a' w' := fun a' w' h => leave a' w' h
        have qmono : ∀ e a' w', e ≠ .normal → Nd Q n ds (dstL ops u 0 m ++ F) (dstOf ops i) w (fun v w' => (E i w v ∧ ∀ p ∈ AL, p.1 = i → v = u p.2) ∧ R i v w') e a' w' → Q e a' w' := by
          intro e a' w' he h
          cases e <;> first | exact absurd rfl he | exact h
        have opmono : ops[i].wp P a w (wpList P (ops.extract 0 (i + 1)) (Nd Q n ds (dstL ops u 0 m ++ F) (dstOf ops i) w (fun v w' => (E i w v ∧ ∀ p ∈ AL, p.1 = i → v = u p.2) ∧ R i v w')) []) (Nd Q n ds (dstL ops u 0 m ++ F) (dstOf ops i) w (fun v w' => (E i w v ∧ ∀ p ∈ AL, p.1 = i → v = u p.2) ∧ R i v w')) → ops[i].wp P a w (I (listed.setIfInBounds i true)) Q := by
          intro h
          unfold Oper.wp at h ⊢
          generalize (execOp a.eval ops[i]).run P w = r at h ⊢
          unfold Oper.upon at h ⊢
          split at h
          · exact hnil _ _ h
          · exact hnil _ _ h
          · exact hnil _ _ h
          · refine h.mono fun e w' he => ?_
            cases e with
            | returned v => exact hnil _ _ he
            | panicked ch => exact qmono _ _ _ (by simp) he
            | outgrown => obtain ⟨a1, w1, h1⟩ := he; exact ⟨a1, w1, qmono _ _ _ (by simp) h1⟩
          · exact h.mono fun v w' he => hnil _ _ he
          · exact qmono _ _ _ (by simp) h
          · exact h.elim
        have outmono : LetsOut (Nd Q n ds (dstL ops u 0 m ++ F) (dstOf ops i) w (fun v w' => (E i w v ∧ ∀ p ∈ AL, p.1 = i → v = u p.2) ∧ R i v w')) → LetsOut Q := fun ⟨a1, w1, h1⟩ => ⟨a1, w1, qmono _ _ _ (by simp) h1⟩
        rw [hwant] at hw
        split
        · rename_i hwn
          rw [if_pos hwn] at hw
          rcases hw with hw | hw
          · exact .inl (opmono hw)
          · exact .inr ⟨hw.1, outmono hw.2⟩
        · rename_i hwn
          rw [if_neg hwn] at hw
          exact hnil _ _ hw
      · -- the first of those behind
        have him' : m ≤ i := by omega
        have hall : ∀ j, j < i → listed.getD j false = true := fun j hj => hip j (sufd i him' hilt j hj)
        have hieq : i = m := by
          rcases Nat.lt_or_ge m i with h | h
          · exfalso
            have h1 := hall m h
            rcases hsufI m (Nat.le_refl _) with h2 | h2
            · rw [Array.getD_eq_getD_getElem?] at h1 h2
              rw [Array.getElem?_eq_getElem (by omega)] at h1 h2
              simp at h1 h2
              rw [h1] at h2; cases h2
            · omega
          · omega
        subst hieq
        have hK := K u w hWw (fun j hj => hRs j hj (hall j hj)) (fun j k hj hk hjk => hDs j k hj hk hjk (hall j hj) (hall k hk)) (fun pr hp hpm => (hAs pr hp hpm (hall pr.1 hpm)).2) a hfr
        rw [drop_of_get (Array.getElem?_eq_getElem hilt)] at hK
        have hwo : wpOp P ops Q i (wpList P ops Q (ops.toList.drop (i + 1))) a w := by
          unfold wpOp
          rw [Array.getElem?_eq_getElem hilt]
          exact hK
        refine wpOp_mono (fun a' w' h => ⟨by simpa using hls, .inr ⟨i + 1, by omega, by omega, fun j hj => ?_, fun j hj => ?_, h⟩⟩) hwo
        · rw [hset]; split
          · rfl
          · exact hall j (by omega)
        · rw [hset, if_neg (by omega)]; exact hsufI j (by omega)
    · -- one of those behind
      have hik : i = k := by
        rcases Nat.lt_trichotomy i k with h | h | h
        · have h1 := hdone i h
          rw [Array.getD_eq_getD_getElem?] at h1 hil
          rw [Array.getElem?_eq_getElem (by omega)] at h1 hil
          simp at h1 hil
          rw [h1] at hil; cases hil
        · exact h
        · exfalso
          have h1 := hip k (sufd i (by omega) hilt k h)
          rcases hrest k (Nat.le_refl _) with h2 | h2
          · rw [Array.getD_eq_getD_getElem?] at h1 h2
            rw [Array.getElem?_eq_getElem (by omega)] at h1 h2
            simp at h1 h2
            rw [h1] at h2; cases h2
          · omega
      subst hik
      rw [drop_of_get (Array.getElem?_eq_getElem hilt)] at hwl
      have hwo : wpOp P ops Q i (wpList P ops Q (ops.toList.drop (i + 1))) a w := by
        unfold wpOp
        rw [Array.getElem?_eq_getElem hilt]
        exact hwl
      refine wpOp_mono (fun a' w' h => ⟨by simpa using hls, .inr ⟨i + 1, by omega, by omega, fun j hj => ?_, fun j hj => ?_, h⟩⟩) hwo
      · rw [hset]; split
        · rfl
        · exact hdone j (by omega)
      · rw [hset, if_neg (by omega)]; exact hrest j (by omega)
  · -- none is left
    intro listed a w hI hr
    obtain ⟨hls, hI⟩ := hI
    have hall : ∀ j, j < ops.size → listed.getD j true = true := by
      intro j
      induction j using Nat.strongRecOn with
      | _ j ih =>
        intro hj
        cases hb : listed.getD j true with
        | true => rfl
        | false =>
          exfalso
          have hmem := readyI listed j hj hb (fun i hi => by
            have hij : i < j := by
              unfold edgesBack at hback
              rw [List.all_eq_true] at hback
              have := hback j (List.mem_range.2 hj)
              rw [List.all_eq_true] at this
              have := this i (by simpa using hi)
              simpa [Nat.blt_eq] using this
            have h1 := ih i hij (by omega)
            rw [Array.getD_eq_getD_getElem?] at h1 ⊢
            rw [Array.getElem?_eq_getElem (by omega)] at h1 ⊢
            simpa using h1)
          rw [hr] at hmem; cases hmem
    rcases hI with ⟨hsufI, hWw, u, hfr, hRs, hDs, hAs⟩ | ⟨k, hmk, hkn, hdone, hrest, hwl⟩
    · have hms : m = ops.size := by
        rcases Nat.lt_or_ge m ops.size with h | h
        · exfalso
          rcases hsufI m (Nat.le_refl _) with h2 | h2
          · rw [hall m h] at h2; cases h2
          · omega
        · omega
      have hall' : ∀ j, j < m → listed.getD j false = true := by
        intro j hj
        have h1 := hall j (by omega)
        rw [Array.getD_eq_getD_getElem?] at h1 ⊢
        rw [Array.getElem?_eq_getElem (by omega)] at h1 ⊢
        simpa using h1
      have hK := K u w hWw (fun j hj => hRs j hj (hall' j hj)) (fun j k hj hk hjk => hDs j k hj hk hjk (hall' j hj) (hall' k hk)) (fun pr hp hpm => (hAs pr hp hpm (hall' pr.1 hpm)).2) a hfr
      rw [List.drop_eq_nil_of_le (by simp; omega)] at hK
      exact hK
    · have hks : k = ops.size := by
        rcases Nat.lt_or_ge k ops.size with h | h
        · exfalso
          rcases hrest k (Nat.le_refl _) with h2 | h2
          · rw [hall k h] at h2; cases h2
          · omega
        · omega
      rw [List.drop_eq_nil_of_le (by simp; omega)] at hwl
      exact hwl
  · rcases Nat.lt_or_ge j ops.size with h | h
    · left; rw [Array.getD_eq_getD_getElem?]; simp [h]
    · exact .inr h
  · intro s x hx
    rw [get_app] at hx
    split at hx
    · rename_i y hy
      simp only [Option.some.injEq] at hx
      subst hx
      obtain ⟨j, h1, h2, h3, rfl⟩ := dstL_get m 0 hy
      refine ⟨?_, hdn j s (by omega) h3⟩
      simp [dstOf, h3]
    · exact ha.val s x hx
  · exfalso
    rw [Array.getD_eq_getD_getElem?] at hl
    rcases Nat.lt_or_ge j ops.size with h | h
    · simp [h] at hl
    · simp [Nat.not_lt.2 h] at hl
  · exfalso
    rw [Array.getD_eq_getD_getElem?] at hl
    rcases Nat.lt_or_ge j ops.size with h | h
    · simp [h] at hl
    · simp [Nat.not_lt.2 h] at hl
  · exfalso
    rw [Array.getD_eq_getD_getElem?] at hl
    rcases Nat.lt_or_ge pr.1 ops.size with h | h
    · simp [h] at hl
    · simp [Nat.not_lt.2 h] at hl
/-- the address of what is new. -/
def adOf : Value → Option Addr | .slice ad _ _ => ad | .pointer a => a | _ => none
theorem newLt {w : World} {v : Value} {c : Array Value} {e m : Nat} (h : ∃ g, v = .pointer (some ⟨g, 0, none⟩) ∧ Blk w g c e ∧ m ≤ g) : adOf v = none ∨ bk (adOf v) < w.heap.size := by
  obtain ⟨g, rfl, hb, _⟩ := h
  exact .inr hb.lt
theorem ownLt {w : World} {v : Value} {B sz n : Nat} {cs : List Value} (h : ∃ ad cap e, v = .slice ad n cap ∧ Own w B e sz ad n cap cs) : adOf v = none ∨ bk (adOf v) < w.heap.size := by
  obtain ⟨ad, cap, e, rfl, ho⟩ := h
  rcases ho.ge with h | h
  · exact .inl h
  · exact .inr h.2
theorem alNone {AL : List (Nat × Nat)} {i : Nat} {u : Nat → Value} {v : Value} (h : (AL.all fun p => p.1 != i) = true) : ∀ p ∈ AL, p.1 = i → v = u p.2 := by
  intro p hp hi
  rw [List.all_eq_true] at h
  have := h p hp
  rw [hi] at this; simp at this
theorem alOne {AL : List (Nat × Nat)} {i s : Nat} {u : Nat → Value} {v : Value} (h : (AL.all fun p => p.1 != i || p.2 == s) = true) (hv : u s = v) : ∀ p ∈ AL, p.1 = i → v = u p.2 := by
  intro p hp hi
  rw [List.all_eq_true] at h
  have := h p hp
  rw [hi] at this
  simp at this
  rw [this, hv]
/-- The same, where the results of the operations FS are new: they lie apart. -/
theorem CW.regionF {id : Nat} (m : Nat) (FS : List Nat) (AL : List (Nat × Nat)) (hAL : (AL.all fun p => (dpreds ops p.1).contains p.2) = true) (W : World → Prop) (R : Nat → Value → World → Prop) (hOld : ∀ j x w, FS.contains j = true → R j x w → adOf x = none ∨ bk (adOf x) < w.heap.size) (hm : P.follows .mixedOrders = true) (hsuf : (Nat.ble m ops.size && (sufOk ops m && (distinct (dsts ops m) && (edgesBack ops && guardsBack ops m)))) = true)
    (hd : (dsts ops m).all (fun d => Nat.blt d n) = true) (hW0 : W { w with drawn := w.drawn + 1 }) (hW : ∀ w w', W w → Chg [] w w' → W w') (hR : ∀ i v w w', R i v w → Chg [] w w' → R i v w')
    (ob : Obs P ops Q n ds m F W R (fun i wq v => FS.contains i = true → adOf v = none ∨ wq.heap.size ≤ bk (adOf v)) AL 0 m)
    (K : ∀ u w, W w → (∀ j, j < m → R j (u j) w) → (∀ j k, j < m → k < m → j ≠ k → FS.contains j = true → FS.contains k = true → Apart (adOf (u j)) (adOf (u k))) → (∀ p ∈ AL, p.1 < m → u p.1 = u p.2) → WR P ops Q m n ds (dstL ops u 0 m ++ F) w) : CW P (.region id ops true) Q n ds F w := by
  refine CW.regionN m W R (fun i wq v => FS.contains i = true → adOf v = none ∨ wq.heap.size ≤ bk (adOf v)) AL hAL (fun j k u v => FS.contains j = true → FS.contains k = true → Apart (adOf u) (adOf v)) ?_ hm hsuf hd hW0 hW hR ob K
  intro i j wq wq' v x _ hE _ hx
  have key : FS.contains i = true → FS.contains j = true → Apart (adOf v) (adOf x) := by
    intro h1 h2
    rcases hE h1 with h | h
    · exact .inl h
    · rcases hOld j x wq h2 hx with h3 | h3
      · exact .inr (.inl h3)
      · exact .inr (.inr (by omega))
  exact ⟨key, fun h1 h2 => (key h2 h1).symm⟩
end
end Go.V
