/- One cell loaded, one cell stored: it does not hang on the others. Nothing here is about one program. -/
import Derived.Test.YtjjlcenmifcaeaaXY
namespace Go.X
open Go.RowKit Go.V

section
variable {T : Tab} (P : Program)
def setCs (c : Nat) (v : AV T.U) (cs : List (AV T.U)) : List (AV T.U) := match cs.all (notArr T) && notArr T v with | true => cs.set c v | false => cs
def setE (c : Nat) (v : AV T.U) : Ent T.U → Ent T.U
  | .blk t cs => .blk t (setCs c v cs)
  | .drow e d fe xs (some (a, cs)) => .drow e d fe xs (some (a, cs.set c v))
  | x => x
/-- alike, but for other cells. -/
def spE (c : Nat) : Ent T.U → Ent T.U → Prop
  | .blk t cs, .blk t' cs' => t = t' ∧ cs.length = cs'.length ∧ cs[c]? = cs'[c]? ∧ cs.all (notArr T) = true ∧ cs'.all (notArr T) = true
  | .drow e d fe xs (some (a, cs)), y => ∃ cs', y = .drow e d fe xs (some (a, cs')) ∧ cs.length = cs'.length ∧ cs[c]? = cs'[c]?
  | _, _ => False
def simE (c : Nat) (x y : Ent T.U) : Prop := x = y ∨ spE c x y
def scal1 (t : TypeId) : Bool := match P.info? t, P.underlying t with | some i, some d => !aggD d && Nat.beq i.size 1 | _, _ => false
/-- an operation on one cell of an entry: which; what it stores. -/
def locP (o : Oper) (F : AF T) (H : List (Ent T.U)) : Option (Nat × Nat × Option (AV T.U)) :=
  match o.op with
  | .load t x => match aev T F x with
    | some (.ptr i c) => match H[i]? with
      | some (.blk _ cs) => (match scal1 P t && (cs.all (notArr T) && Nat.blt c cs.length) with | true => some (i, c, none) | false => none)
      | _ => none
    | some (.eptr i _ _ c) => match H[i]? with
      | some (.drow _ _ _ _ (some (_, cs))) => (match scal1 P t && Nat.blt c cs.length with | true => some (i, c, none) | false => none)
      | _ => none
    | _ => none
  | .store t x y => match o.dst, aev T F x, aev T F y with
    | none, some (.ptr i c), some v => match H[i]? with
      | some (.blk _ cs) => (match scal1 P t && (flatAV T v && (cs.all (notArr T) && Nat.blt c cs.length)) with | true => some (i, c, some v) | false => none)
      | _ => none
    | none, some (.eptr i _ _ c), some v => match H[i]? with
      | some (.drow _ _ _ _ (some (_, cs))) => (match scal1 P t && (flatAV T v && Nat.blt c cs.length) with | true => some (i, c, some v) | false => none)
      | _ => none
    | _, _, _ => none
  | _ => none
def putE (k c : Nat) (sv : Option (AV T.U)) (f : Ent T.U) (H : List (Ent T.U)) : List (Ent T.U) := match sv with | some v => H.set k (setE c v f) | none => H
end
section
variable {T : Tab} {P : Program} {C : Ctx T} {F F' : AF T} {H H' : List (Ent T.U)} {o : Oper}
theorem simE.symm {c : Nat} {x y : Ent T.U} (h : simE c x y) : simE c y x := by
  rcases h with rfl | h
  · exact .inl rfl
  · cases x with
    | blk t cs =>
      cases y with
      | blk t' cs' => obtain ⟨rfl, h2, h3, h4, h5⟩ := h; exact .inr ⟨rfl, h2.symm, h3.symm, h5, h4⟩
      | _ => exact h.elim
    | drow e d fe xs op =>
      cases op with
      | none => exact h.elim
      | some p => obtain ⟨a, cs⟩ := p; obtain ⟨cs', rfl, h2, h3⟩ := h; exact .inr ⟨cs, rfl, h2.symm, h3.symm⟩
    | _ => exact h.elim
theorem all_set {cs : List (AV T.U)} {c : Nat} {v : AV T.U} (h : cs.all (notArr T) = true) (hv : notArr T v = true) : (cs.set c v).all (notArr T) = true := by
  rw [List.all_eq_true] at h ⊢
  intro a ha
  rcases List.mem_or_eq_of_mem_set ha with ha | rfl
  · exact h a ha
  · exact hv
theorem setCs_yes {c : Nat} {v : AV T.U} {cs : List (AV T.U)} (h : cs.all (notArr T) = true) (hv : notArr T v = true) : setCs c v cs = cs.set c v := by unfold setCs; rw [h, hv]; rfl
theorem setCs_cases (c : Nat) (v : AV T.U) (cs : List (AV T.U)) : (setCs c v cs = cs) ∨ (setCs c v cs = cs.set c v ∧ cs.all (notArr T) = true ∧ notArr T v = true) := by
  cases h : cs.all (notArr T) with
  | false => left; unfold setCs; rw [h]; rfl
  | true =>
    cases hv : notArr T v with
    | false => left; unfold setCs; rw [h, hv]; rfl
    | true => exact .inr ⟨setCs_yes h hv, rfl, rfl⟩
theorem setCs_len (c : Nat) (v : AV T.U) (cs : List (AV T.U)) : (setCs c v cs).length = cs.length := by
  rcases setCs_cases c v cs with h | ⟨h, _⟩ <;> rw [h]; simp
theorem setCs_all {c : Nat} {v : AV T.U} {cs : List (AV T.U)} (h : cs.all (notArr T) = true) : (setCs c v cs).all (notArr T) = true := by
  rcases setCs_cases c v cs with h1 | ⟨h1, _, hv⟩ <;> rw [h1]
  · exact h
  · exact all_set h hv
theorem setCs_ne {c c' : Nat} (hc : c' ≠ c) (v : AV T.U) (cs : List (AV T.U)) : (setCs c' v cs)[c]? = cs[c]? := by
  rcases setCs_cases c' v cs with h1 | ⟨h1, _⟩ <;> rw [h1]
  exact List.getElem?_set_ne hc
/-- another cell is stored, on one side. -/
theorem simE.left {c c' : Nat} (hc : c' ≠ c) (v : AV T.U) {x y : Ent T.U} (h : simE c x y) : simE c (setE c' v x) y := by
  have key : simE c (setE c' v x) x := by
    cases x with
    | blk t cs =>
      show simE c (.blk t (setCs c' v cs)) (.blk t cs)
      rcases setCs_cases c' v cs with h1 | ⟨h1, h2, h3⟩
      · rw [h1]; exact .inl rfl
      · rw [h1]; exact .inr ⟨rfl, by simp, List.getElem?_set_ne hc, all_set h2 h3, h2⟩
    | drow e d fe xs op =>
      cases op with
      | none => exact .inl rfl
      | some p => obtain ⟨a, cs⟩ := p; exact .inr ⟨cs, rfl, by simp, List.getElem?_set_ne hc⟩
    | _ => exact .inl rfl
  rcases h with rfl | h
  · exact key
  · cases x with
    | blk t cs =>
      cases y with
      | blk t' cs' =>
        obtain ⟨rfl, h2, h3, h4, h5⟩ := h
        exact .inr ⟨rfl, (setCs_len ..).trans h2, (setCs_ne hc ..).trans h3, setCs_all h4, h5⟩
      | _ => exact h.elim
    | drow e d fe xs op =>
      cases op with
      | none => exact h.elim
      | some p =>
        obtain ⟨a, cs⟩ := p
        obtain ⟨cs', rfl, h2, h3⟩ := h
        exact .inr ⟨cs', rfl, by simpa using h2, (List.getElem?_set_ne hc).trans h3⟩
    | _ => exact h.elim
/-- a cell is stored, on both sides. -/
theorem simE.both {c : Nat} (c' : Nat) (v : AV T.U) {x y : Ent T.U} (h : simE c x y) : simE c (setE c' v x) (setE c' v y) := by
  rcases h with rfl | h
  · exact .inl rfl
  · cases x with
    | blk t cs =>
      cases y with
      | blk t' cs' =>
        obtain ⟨rfl, h2, h3, h4, h5⟩ := h
        refine .inr ⟨rfl, by rw [setCs_len, setCs_len]; exact h2, ?_, setCs_all h4, setCs_all h5⟩
        cases hv : notArr T v with
        | false =>
          rcases setCs_cases c' v cs with h6 | ⟨_, _, h6⟩
          · rcases setCs_cases c' v cs' with h7 | ⟨_, _, h7⟩
            · rw [h6, h7]; exact h3
            · rw [hv] at h7; cases h7
          · rw [hv] at h6; cases h6
        | true => rw [setCs_yes h4 hv, setCs_yes h5 hv, List.getElem?_set, List.getElem?_set, h2, h3]
      | _ => exact h.elim
    | drow e d fe xs op =>
      cases op with
      | none => exact h.elim
      | some p =>
        obtain ⟨a, cs⟩ := p
        obtain ⟨cs', rfl, h2, h3⟩ := h
        refine .inr ⟨_, rfl, by simpa using h2, ?_⟩
        rw [List.getElem?_set, List.getElem?_set, h2, h3]
    | _ => exact h.elim
theorem setCs_comm {c c' : Nat} (hc : c ≠ c') (v v' : AV T.U) (cs : List (AV T.U)) : setCs c v (setCs c' v' cs) = setCs c' v' (setCs c v cs) := by
  rcases setCs_cases c v cs with h1 | ⟨h1, h2, h3⟩ <;> rcases setCs_cases c' v' cs with h4 | ⟨h4, h5, h6⟩
  · rw [h1, h4, h1]
  · rw [h1, h4]
    rcases setCs_cases c v (cs.set c' v') with h7 | ⟨h7, h8, h9⟩
    · exact h7
    · rw [setCs_yes h5 h9] at h1
      rw [h7, List.set_comm _ _ (Ne.symm hc), h1]
  · rw [h4, h1]
    rcases setCs_cases c' v' (cs.set c v) with h7 | ⟨h7, h8, h9⟩
    · exact h7.symm
    · rw [setCs_yes h2 h9] at h4
      rw [h7, List.set_comm _ _ hc, h4]
  · rw [h4, h1, setCs_yes (all_set h2 h6) h3, setCs_yes (all_set h2 h3) h6, List.set_comm _ _ hc]
theorem setE_comm {c c' : Nat} (hc : c ≠ c') (v v' : AV T.U) (x : Ent T.U) : setE c v (setE c' v' x) = setE c' v' (setE c v x) := by
  cases x with
  | blk t cs => exact congrArg (Ent.blk t) (setCs_comm hc v v' cs)
  | drow e d fe xs op =>
    cases op with
    | none => rfl
    | some p => obtain ⟨a, cs⟩ := p; simp only [setE]; rw [List.set_comm _ _ hc]
  | _ => rfl
theorem set_ids {cs : List (AV T.U)} {c : Nat} {v : AV T.U} {i : Nat} (h : i ∈ idsL (cs.set c v)) : i ∈ idsL cs ∨ i ∈ v.ids := by
  obtain ⟨a, ha, hi⟩ := idsL_of h
  rcases List.mem_or_eq_of_mem_set ha with ha | rfl
  · exact .inl (idsL_mem ha i hi)
  · exact .inr hi
theorem setE_ids {c : Nat} {v : AV T.U} {x : Ent T.U} {i : Nat} (h : i ∈ (setE c v x).cellIds) : i ∈ x.cellIds ∨ i ∈ v.ids := by
  cases x with
  | blk t cs =>
    have h : i ∈ idsL (setCs c v cs) := h
    rcases setCs_cases c v cs with h1 | ⟨h1, _⟩
    · rw [h1] at h; exact .inl h
    · rw [h1] at h; exact set_ids h
  | drow e d fe xs op => cases op with
    | none => exact .inl h
    | some p => obtain ⟨a, cs⟩ := p; exact set_ids (T := T) h
  | _ => exact .inl h
theorem aev_mono (hF : ∀ t a, F.get T t = some a → F'.get T t = some a) {x : Operand} {a : AV T.U} (h : aev T F x = some a) : aev T F' x = some a := by
  cases x with
  | tmp t => exact hF t a h
  | const v => exact h
  | func f => exact h
  | global g => exact h
theorem scal1_spec {t : TypeId} (h : scal1 P t = true) : ∃ i d, P.info? t = some i ∧ P.underlying t = some d ∧ aggD d = false ∧ i.size = 1 := by
  unfold scal1 at h
  split at h
  · rename_i i d hi hd
    simp only [Bool.and_eq_true, Bool.not_eq_true'] at h
    exact ⟨i, d, hi, hd, h.1, Nat.eq_of_beq_eq_true h.2⟩
  · cases h
theorem locB_flat : ∀ {cs : List (AV T.U)} {c : Nat}, cs.all (notArr T) = true → c < cs.length → locB T cs c = some (cs.drop c)
  | [], c, _, h => by simp at h
  | a :: r, 0, _, _ => rfl
  | a :: r, c + 1, h, hl => by
    rw [List.all_cons, Bool.and_eq_true] at h
    have h1 : Nat.ble (wd T a) (c + 1) = true := by rw [wd_one T h.1]; exact Nat.ble_eq_true_of_le (by omega)
    unfold locB
    rw [show Nat.beq (c + 1) 0 = false from rfl]
    simp only [h1]
    rw [wd_one T h.1, Nat.add_sub_cancel, locB_flat h.2 (by simpa using hl), List.drop_succ_cons]
theorem loadB_flat {t : TypeId} (hs : scal1 P t = true) {cs : List (AV T.U)} {c : Nat} (h : cs.all (notArr T) = true) (hl : c < cs.length) : loadB T P t cs c = cs[c]? := by
  obtain ⟨i, d, hi, hd, ha, _⟩ := scal1_spec hs
  unfold loadB cutB
  rw [hi, hd]
  simp only [ha]
  rw [locB_flat h hl, List.drop_eq_getElem_cons hl, List.getElem?_eq_getElem hl]
  simp only
  rw [List.all_eq_true] at h
  rw [h _ (List.getElem_mem hl)]
theorem turnB_flat {v : AV T.U} (hv : notArr T v = true) : ∀ {cs : List (AV T.U)} {c : Nat}, cs.all (notArr T) = true → c < cs.length → turnB T (putG T [v]) cs c = some (cs.set c v)
  | [], c, _, h => by simp at h
  | a :: r, 0, h, _ => by
    rw [List.all_cons, Bool.and_eq_true] at h
    show putG T [v] (a :: r) = _
    unfold putG
    simp only [putOnes, h.1, hv, Bool.and_self, List.set_cons_zero]
  | a :: r, c + 1, h, hl => by
    rw [List.all_cons, Bool.and_eq_true] at h
    have h1 : Nat.ble (wd T a) (c + 1) = true := by rw [wd_one T h.1]; exact Nat.ble_eq_true_of_le (by omega)
    unfold turnB
    rw [show Nat.beq (c + 1) 0 = false from rfl]
    simp only [h1]
    rw [wd_one T h.1, Nat.add_sub_cancel, turnB_flat hv h.2 (by simpa using hl)]
    rfl
theorem flat_cells {v : AV T.U} (h : flatAV T v = true) : cellsA T v = [v] ∧ cellsOk T v = true ∧ arrI v = none ∧ notArr T v = true := by
  cases v <;> first | (cases h; done) | exact ⟨rfl, h, rfl, rfl⟩ | exact ⟨rfl, rfl, rfl, rfl⟩
theorem fits_flat {t : TypeId} (hs : scal1 P t = true) {v : AV T.U} (h : flatAV T v = true) (c n : Nat) (hc : c < n) : fits T P t c n v = true := by
  obtain ⟨i, d, hi, hd, ha, h1⟩ := scal1_spec hs
  obtain ⟨e1, e2, e3, e4⟩ := flat_cells h
  unfold fits
  rw [hi]
  simp only [e1, e2, h1, h, List.length_cons, List.length_nil, List.all_cons, List.all_nil, Bool.and_self, Bool.and_true, Bool.true_and]
  rw [Bool.and_eq_true]
  exact ⟨rfl, Nat.ble_eq_true_of_le hc⟩
theorem arr_scal {t : TypeId} (hs : scal1 P t = true) : arrInfo P t = none := by
  obtain ⟨i, d, hi, hd, ha, _⟩ := scal1_spec hs
  unfold arrInfo
  rw [hd]
  cases d <;> first | rfl | cases ha
/-- a load of one cell. -/
theorem load_loc {t : TypeId} {x : Operand} (hop : o.op = .load t x) {i c : Nat} {e : TypeId} {cs : List (AV T.U)} (hx : aev T F x = some (.ptr i c)) (hi : H[i]? = some (.blk e cs)) (hs : scal1 P t = true) (hn : cs.all (notArr T) = true) (hc : c < cs.length) {R : Type} (K : St T → Option R) (Kp : AV T.U → St T → Option R) :
    stepF P C o ⟨F, H⟩ K Kp = match cs[c]? with | some (.eptr _ _ _ _) => none | some u => K ⟨updA T F o.dst u, H⟩ | none => none := by
  have h1 : stepR P C o ⟨F, H⟩ K = none := by simp only [stepR, hop, hx]
  have h2 : arrOp P o.op = false := by rw [hop]; simp only [arrOp, arr_scal hs]; rfl
  unfold stepF
  rw [h1]
  simp only [stepE, hop, stepA]
  unfold readA
  rw [h2]
  simp only [readB, hop, pureA, hx, loadA, hi, loadB_flat hs hn hc]
  rw [List.getElem?_eq_getElem hc]
  generalize cs[c] = u
  cases u <;> rfl
theorem store_loc {t : TypeId} {x y : Operand} (hop : o.op = .store t x y) (hdst : o.dst = none) {i c : Nat} {e : TypeId} {cs : List (AV T.U)} {v : AV T.U} (hx : aev T F x = some (.ptr i c)) (hy : aev T F y = some v) (hi : H[i]? = some (.blk e cs)) (hs : scal1 P t = true) (hv : flatAV T v = true) (hn : cs.all (notArr T) = true) (hc : c < cs.length) {R : Type} (K : St T → Option R) (Kp : AV T.U → St T → Option R) :
    stepF P C o ⟨F, H⟩ K Kp = K ⟨F, H.set i (.blk e (cs.set c v))⟩ := by
  obtain ⟨e1, e2, e3, e4⟩ := flat_cells hv
  have h1 : stepR P C o ⟨F, H⟩ K = none := by simp only [stepR, hop, hx]
  have h3 : storeB T P t cs c v = some (cs.set c v) := by
    unfold storeB
    simp only [e3, e1, List.length_cons, List.length_nil]
    rw [fits_flat hs hv 0 _ (by omega)]
    exact turnB_flat e4 hn hc
  have h4 : stepA P C o ⟨F, H⟩ K Kp = K ⟨F, H.set i (.blk e (cs.set c v))⟩ := by simp only [stepA, hop, hdst, hx, hy, storeA, hi, h3]
  have h5 : placeTy T H (.ptr i c) v = none := rfl
  unfold stepF
  rw [h1]
  simp only [stepE, hop, hx, hy, h5]
  cases cellsOf T (cellsA T v) <;> exact h4
theorem load_locD {t : TypeId} {x : Operand} (hop : o.op = .load t x) {i sz a c : Nat} {e : TypeId} {d : Nat} {fe : List TypeId} {xs : List (T.U d)} {b : Nat} {cs : List (AV T.U)} (hx : aev T F x = some (.eptr i sz a c)) (hi : H[i]? = some (.drow e d fe xs (some (b, cs)))) (hs : scal1 P t = true) {R : Type} (K : St T → Option R) (Kp : AV T.U → St T → Option R) :
    stepF P C o ⟨F, H⟩ K Kp = match Nat.beq sz (T.size d), cs[c]? with | true, some u => (match notEp u with | true => if a = b then K ⟨updA T F o.dst u, H⟩ else none | false => none) | _, _ => none := by
  obtain ⟨ii, dd, hii, hdd, ha, _⟩ := scal1_spec hs
  have h0 : loadC T P t cs c = cs[c]? := by unfold loadC cutA; rw [hii, hdd]; simp only [ha]
  have h1 : stepR P C o ⟨F, H⟩ K = some (loadD P t H i sz a c e d fe xs (some (b, cs)) fun v H => K ⟨updA T F o.dst v, H⟩) := by simp only [stepR, hop, hx, hi]
  unfold stepF
  rw [h1]
  simp only [loadD, h0]
  cases Nat.beq sz (T.size d) with
  | false => rfl
  | true => cases cs[c]? <;> rfl
theorem store_locD {t : TypeId} {x y : Operand} (hop : o.op = .store t x y) (hdst : o.dst = none) {i sz a c : Nat} {e : TypeId} {d : Nat} {fe : List TypeId} {xs : List (T.U d)} {b : Nat} {cs : List (AV T.U)} {v : AV T.U} (hx : aev T F x = some (.eptr i sz a c)) (hy : aev T F y = some v) (hi : H[i]? = some (.drow e d fe xs (some (b, cs)))) (hv : flatAV T v = true) {R : Type} (K : St T → Option R) (Kp : AV T.U → St T → Option R) :
    stepF P C o ⟨F, H⟩ K Kp = match Nat.beq sz (T.size d) && fits T P t c (T.size d) v with | true => if a = b then K ⟨F, H.set i (.drow e d fe xs (some (b, cs.set c v)))⟩ else none | false => none := by
  obtain ⟨e1, e2, e3, e4⟩ := flat_cells hv
  have h1 : stepR P C o ⟨F, H⟩ K = some (storeD P t H i sz a c e d fe xs (some (b, cs)) v fun H => K ⟨F, H⟩) := by simp only [stepR, hop, hx, hi, hdst, hy]
  unfold stepF
  rw [h1]
  simp only [storeD, e1, putsA]
  cases Nat.beq sz (T.size d) && fits T P t c (T.size d) v <;> rfl
theorem upd_same {d : Option Tmp} {Fz : AF T} {a u : AV T.U} (h : updA T F d u = updA T Fz d a) (G : AF T) : updA T G d u = updA T G d a := by
  cases d with
  | none => rfl
  | some d =>
    simp only [updA, List.cons.injEq, Prod.mk.injEq] at h
    rw [show u = a from h.1.2]
theorem sim_blk {c : Nat} {f : Ent T.U} {e : TypeId} {cs : List (AV T.U)} (hn : cs.all (notArr T) = true) (h : simE c f (.blk e cs)) : ∃ cs', f = .blk e cs' ∧ cs'.length = cs.length ∧ cs'[c]? = cs[c]? ∧ cs'.all (notArr T) = true := by
  rcases h with rfl | h
  · exact ⟨cs, rfl, rfl, rfl, hn⟩
  · cases f with
    | blk e' cs' => obtain ⟨rfl, h2, h3, h4, _⟩ := h; exact ⟨cs', rfl, h2, h3, h4⟩
    | drow e d fe xs op => cases op with
      | none => exact h.elim
      | some p => obtain ⟨a, cs⟩ := p; obtain ⟨_, h, _⟩ := h; cases h
    | _ => exact h.elim
theorem sim_drow {c : Nat} {f : Ent T.U} {e : TypeId} {d : Nat} {fe : List TypeId} {xs : List (T.U d)} {b : Nat} {cs : List (AV T.U)} (h : simE c f (.drow e d fe xs (some (b, cs)))) : ∃ cs', f = .drow e d fe xs (some (b, cs')) ∧ cs'.length = cs.length ∧ cs'[c]? = cs[c]? := by
  rcases h with rfl | h
  · exact ⟨cs, rfl, rfl, rfl⟩
  · cases f with
    | drow e d fe xs op => cases op with
      | none => exact h.elim
      | some p =>
        obtain ⟨a, cs0⟩ := p
        obtain ⟨cs', h, h2, h3⟩ := h
        cases h; exact ⟨cs0, rfl, h2, h3⟩
    | _ => exact h.elim
/-- What an operation on one cell comes to, whatever lies in the others. -/
theorem loc_step {k c : Nat} {sv : Option (AV T.U)} (hl : locP P o F H = some (k, c, sv)) {Fz : AF T} {a : AV T.U} {H1 : List (Ent T.U)} (h : stepF P C o ⟨F, H⟩ some (fun _ _ => none) = some ⟨updA T Fz o.dst a, H1⟩) :
    ∃ x, H[k]? = some x ∧ x.live = true ∧ H1 = putE k c sv x H ∧ ∀ (F' : AF T) (H' : List (Ent T.U)) (f : Ent T.U), (∀ t a, F.get T t = some a → F'.get T t = some a) → H'[k]? = some f → simE c f x → stepF P C o ⟨F', H'⟩ some (fun _ _ => none) = some ⟨updA T F' o.dst a, putE k c sv f H'⟩ := by
  unfold locP at hl
  split at hl <;> try (cases hl; done)
  · rename_i t x hop
    split at hl <;> try (cases hl; done)
    · rename_i i c0 hx
      split at hl <;> try (cases hl; done)
      rename_i e cs hi
      split at hl <;> try (cases hl; done)
      rename_i hb
      simp only [Bool.and_eq_true, Nat.blt_eq] at hb
      obtain ⟨hs, hn, hc⟩ := hb
      simp only [Option.some.injEq, Prod.mk.injEq] at hl
      obtain ⟨rfl, rfl, rfl⟩ := hl
      rw [load_loc hop hx hi hs hn hc] at h
      split at h <;> try (cases h; done)
      rename_i u hne hu
      simp only [Option.some.injEq, St.mk.injEq] at h
      obtain ⟨h, rfl⟩ := h
      refine ⟨_, hi, rfl, rfl, fun F' H' f hF hf hsim => ?_⟩
      obtain ⟨cs', rfl, g1, g2, g3⟩ := sim_blk hn hsim
      rw [load_loc hop (aev_mono hF hx) hf hs g3 (by omega), g2, hu]
      have := upd_same h F'
      cases u <;> first | exact absurd rfl (hne _ _ _ _) | (simp only [this]; rfl)
    · rename_i i sz0 a0 c0 hx
      split at hl <;> try (cases hl; done)
      rename_i e d fe xs b cs hi
      split at hl <;> try (cases hl; done)
      rename_i hb
      simp only [Bool.and_eq_true, Nat.blt_eq] at hb
      obtain ⟨hs, hc⟩ := hb
      simp only [Option.some.injEq, Prod.mk.injEq] at hl
      obtain ⟨rfl, rfl, rfl⟩ := hl
      rw [load_locD hop hx hi hs] at h
      split at h <;> try (cases h; done)
      rename_i u hsz hu
      split at h <;> try (cases h; done)
      rename_i hne
      obtain ⟨hab, h2⟩ := iteOpt h
      clear h
      simp only [Option.some.injEq, St.mk.injEq] at h2
      obtain ⟨h, rfl⟩ := h2
      refine ⟨_, hi, rfl, rfl, fun F' H' f hF hf hsim => ?_⟩
      obtain ⟨cs', rfl, g1, g2⟩ := sim_drow hsim
      rw [load_locD hop (aev_mono hF hx) hf hs, g2, hu, hsz]
      simp only [hne, if_pos hab, upd_same h F']
      rfl
  · rename_i t x y hop
    split at hl <;> try (cases hl; done)
    · rename_i i c0 v hdst hx hy
      split at hl <;> try (cases hl; done)
      rename_i e cs hi
      split at hl <;> try (cases hl; done)
      rename_i hb
      simp only [Bool.and_eq_true, Nat.blt_eq] at hb
      obtain ⟨hs, hv, hn, hc⟩ := hb
      simp only [Option.some.injEq, Prod.mk.injEq] at hl
      obtain ⟨rfl, rfl, rfl⟩ := hl
      have e4 := (flat_cells hv).2.2.2
      rw [store_loc hop hdst hx hy hi hs hv hn hc] at h
      simp only [Option.some.injEq, St.mk.injEq] at h
      obtain ⟨h, rfl⟩ := h
      refine ⟨_, hi, rfl, ?_, fun F' H' f hF hf hsim => ?_⟩
      · show _ = H.set i (.blk e (setCs c0 v cs)); rw [setCs_yes hn e4]
      · obtain ⟨cs', rfl, g1, g2, g3⟩ := sim_blk hn hsim
        rw [store_loc hop hdst (aev_mono hF hx) (aev_mono hF hy) hf hs hv g3 (by omega), hdst]
        show _ = some (⟨F', H'.set i (.blk e (setCs c0 v cs'))⟩ : St T)
        rw [setCs_yes g3 e4]
    · rename_i i sz0 a0 c0 v hdst hx hy
      split at hl <;> try (cases hl; done)
      rename_i e d fe xs b cs hi
      split at hl <;> try (cases hl; done)
      rename_i hb
      simp only [Bool.and_eq_true, Nat.blt_eq] at hb
      obtain ⟨hs, hv, hc⟩ := hb
      simp only [Option.some.injEq, Prod.mk.injEq] at hl
      obtain ⟨rfl, rfl, rfl⟩ := hl
      rw [store_locD hop hdst hx hy hi hv] at h
      split at h <;> try (cases h; done)
      rename_i hfit
      obtain ⟨hab, h2⟩ := iteOpt h
      clear h
      simp only [Option.some.injEq, St.mk.injEq] at h2
      obtain ⟨h, rfl⟩ := h2
      refine ⟨_, hi, rfl, rfl, fun F' H' f hF hf hsim => ?_⟩
      · obtain ⟨cs', rfl, g1, g2⟩ := sim_drow hsim
        rw [store_locD hop hdst (aev_mono hF hx) (aev_mono hF hy) hf hv, hfit, hdst]
        simp only [if_pos hab]
        rfl
end
end Go.X
