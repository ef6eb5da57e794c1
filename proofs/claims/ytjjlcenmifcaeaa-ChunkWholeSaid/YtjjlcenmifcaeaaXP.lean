/- Maps of pointers to blocks that they own: a block is opened, others come, go. Nothing here is about one program. -/
import Derived.Test.YtjjlcenmifcaeaaXZ
namespace Go.X
open Go.RowKit Go.V

def forkB {R : Type} (c : Bool) (x y : Option R) : Option R := if c = true then x else y
theorem forkB_cases {R : Type} {c : Bool} {x y : Option R} {r : R} (h : forkB c x y = some r) : (c = true ∧ x = some r) ∨ (c = false ∧ y = some r) := by
  unfold forkB at h
  cases c
  · exact .inr ⟨rfl, by simpa using h⟩
  · exact .inl ⟨rfl, by simpa using h⟩
section
variable {T : Tab} (P : Program) (C : Ctx T) {R : Type}
def nilPtr (et : TypeId) : Bool := match (P.info? et).bind (·.zero) with | some (.pointer none) => true | _ => false
/-- a pointer to a block comes under a key. -/
def insP (H : List (Ent T.U)) (i : Nat) (k : IntKind) (be : TypeId) (d : Nat) (m : List (Int × T.U d)) (op : Option (Int × Nat)) (x : Int) (a : AV T.U) (K : List (Ent T.U) → Option R) : Option R :=
  match a with
  | .ptr j o => match H[j]?, Nat.beq o 0 with
    | some (.blk be' cs), true => match Nat.beq be' be with
      | true => match op with
        | none => match T.rb d cs with | some u => K (H.set i (.pmap k be d (tset m x u) (some (x, j)))) | none => none
        | some (y, j') => match Nat.beq j' j with | true => if y = x then K H else none | false => none
      | false => none
    | _, _ => none
  | _ => none
def delP (H : List (Ent T.U)) (i : Nat) (k : IntKind) (be : TypeId) (d : Nat) (m : List (Int × T.U d)) (op : Option (Int × Nat)) (x : Int) (K : List (Ent T.U) → Option R) : Option R :=
  match op with
  | none => K (H.set i (.pmap k be d (tdel m x) none))
  | some (y, _) => if y = x then K (H.set i (.pmap k be d (tdel m x) none)) else none
def kindsOk (t : TypeId) (k' kx : IntKind) : Option TypeId := match mapK P t with | some (k, _, et) => (match kindEq k k' && kindEq kx k' with | true => some et | false => none) | none => none
def insM (o : Oper) (st : St T) (K : St T → Option R) (t : TypeId) (xm xk xv : Operand) : Option (Option R) :=
  match o.dst, aev T st.F xm, aev T st.F xk, aev T st.F xv with
  | none, some (.mp i), some (.cell ⟨.int kx, x⟩), some a => match st.H[i]? with
    | some (.pmap k' be d m op) => some (match kindsOk P t k' kx with
      | some _ => insP st.H i k' be d m op x a fun H1 => K ⟨st.F, H1⟩
      | none => none)
    | _ => none
  | _, _, _, _ => none
/-- operations on such maps. -/
def stepM (o : Oper) (st : St T) (K : St T → Option R) : Option (Option R) :=
  match o.op with
  | .makeMap t none => match mapK P t, C.pm t with
    | some (k, _, _), some (be, d) => some (K ⟨updA T st.F o.dst (.mp st.H.length), st.H ++ [.pmap k be d [] none]⟩)
    | _, _ => none
  | .lookup t xm xk false => match aev T st.F xm, aev T st.F xk with
    | some (.mp i), some (.cell ⟨.int kx, x⟩) => match st.H[i]? with
      | some (.pmap k' be d m none) => some (match kindsOk P t k' kx with
        | some et => match nilPtr P et with
          | true => forkB (thas m x) (K ⟨updA T st.F o.dst (.ptr st.H.length 0), st.H.set i (.pmap k' be d m (some (x, st.H.length))) ++ [.blk be (T.bl d (tget T (.user d) m x))]⟩) (K ⟨updA T st.F o.dst (.raw (.pointer none)), st.H⟩)
          | false => none
        | none => none)
      | _ => none
    | _, _ => none
  | .insert t xm xk xv => insM P o st K t xm xk xv
  | .mapUpdate t xm xk xv => insM P o st K t xm xk xv
  | .call c => match c.callee with
    | .builtin .delete => match aevL T st.F c.args.toList, c.argTypes.toList with
      | some [.mp i, .cell ⟨.int kx, x⟩], t :: _ => match st.H[i]? with
        | some (.pmap k' be d m op) => some (match kindsOk P t k' kx with
          | some _ => delP st.H i k' be d m op x fun H1 => K ⟨updA T st.F o.dst (.tup []), H1⟩
          | none => none)
        | _ => none
      | _, _ => none
    | _ => none
  | _ => none
end
section
variable {T : Tab} {P : Program} {C : Ctx T} {w w' : World} {S S' : List Nat} {φ φ' : Nat → RA} {w0 : World} {S0 : Ow} {F : AF T} {H : List (Ent T.U)} {F' : PF}
variable {ops : Array Oper} {Q : Exit → Act → World → Prop} {k n : Nat} {ds : List Deferred} {o : Oper}
theorem kindsOk_spec {t et : TypeId} {k' kx : IntKind} (h : kindsOk P t k' kx = some et) : kx = k' ∧ ∃ kt, mapK P t = some (k', kt, et) := by
  unfold kindsOk at h
  split at h <;> try (cases h; done)
  rename_i k kt et' hm
  split at h <;> try (cases h; done)
  rename_i hb
  rw [Bool.and_eq_true] at hb
  have b1 := kindEq_eq hb.1; have b2 := kindEq_eq hb.2
  subst b1; subst b2
  simp only [Option.some.injEq] at h; subst h
  exact ⟨rfl, kt, hm⟩
/-- a key is sought. -/
theorem kfind {d : Nat} {kd : IntKind} {x : Int} : ∀ {m : List (Int × T.U d)} {l : List MapEntry} (i : Nat), m.length = l.length → (∀ (p : Nat) (y : Int) (u : T.U d) (e : MapEntry), m[p]? = some (y, u) → l[p]? = some e → e.key = .int kd y) →
    (Instr.findNow (.int kd) (.int kd x) l i = some none ∧ thas m x = false ∧ (∀ a, tset m x a = m ++ [(x, a)]) ∧ tdel m x = m ∧ (∀ e ∈ l, e.key ≠ .int kd x) ∧ x ∉ m.map Prod.fst) ∨
    ∃ (j : Nat) (e : MapEntry) (u : T.U d), Instr.findNow (.int kd) (.int kd x) l i = some (some (i + j, e.val)) ∧ l[j]? = some e ∧ m[j]? = some (x, u) ∧ e.key = .int kd x ∧ thas m x = true ∧ tget T (.user d) m x = u ∧ (∀ a, tset m x a = m.set j (x, a)) ∧ tdel m x = m.eraseIdx j
  | [], [], _, _, _ => .inl ⟨rfl, rfl, fun _ => rfl, rfl, by simp, by simp⟩
  | [], _ :: _, _, h, _ => by simp at h
  | _ :: _, [], _, h, _ => by simp at h
  | (y, a) :: r, e :: l, i, hl, h => by
    have h1 := h 0 y a e rfl rfl
    by_cases hx : x = y
    · subst hx
      refine .inr ⟨0, e, a, ?_, rfl, rfl, h1, by simp [thas], (if_pos rfl : (if x = x then a else tget T (.user d) r x) = a), fun b => by simp [tset], by simp [tdel]⟩
      unfold Instr.findNow
      rw [h1]
      simp [Instr.sameNow]
    · have hf : Instr.findNow (.int kd) (.int kd x) (e :: l) i = Instr.findNow (.int kd) (.int kd x) l (i + 1) := by
        rw [Instr.findNow, h1]
        simp only [Instr.sameNow, if_true]
        rw [show (x == y) = false from by simpa using hx]
      rcases kfind (x := x) (i + 1) (by simpa using hl) (fun p z u e h2 h3 => h (p + 1) z u e (by simpa using h2) (by simpa using h3)) with ⟨g1, g2, g4, g5, g6, g7⟩ | ⟨j, e', u, g1, g2, g3, g4, g5, g6, g7, g8⟩
      · refine .inl ⟨hf.trans g1, by simp [thas, hx, g2], fun b => by simp [tset, hx, g4], by simp [tdel, hx, g5], ?_, by simp only [List.map_cons, List.mem_cons, not_or]; exact ⟨hx, g7⟩⟩
        intro q hq
        rcases List.mem_cons.1 hq with rfl | hq
        · rw [h1]; simp; exact fun e => hx e.symm
        · exact g6 q hq
      · exact .inr ⟨j + 1, e', u, by rw [hf, g1]; simp; omega, by simpa using g2, by simpa using g3, g4, by simp [thas, hx, g5], (if_neg hx : (if x = y then a else tget T (.user d) r x) = tget T (.user d) r x).trans g6, fun b => by simp [tset, hx, g7], by simp [tdel, hx, g8]⟩
theorem PRel.find {r : RA} {kd : IntKind} {be : TypeId} {d : Nat} {m : List (Int × T.U d)} {op : Option (Int × Nat)} {l : List MapEntry} {bs : List Nat} (h : PRel T w S φ r kd be d m op l bs) (x : Int) :
    (Instr.findNow (.int kd) (.int kd x) l 0 = some none ∧ thas m x = false ∧ (∀ a, tset m x a = m ++ [(x, a)]) ∧ tdel m x = m ∧ (∀ e ∈ l, e.key ≠ .int kd x) ∧ x ∉ m.map Prod.fst) ∨
    ∃ (j : Nat) (e : MapEntry) (u : T.U d) (b : Nat), Instr.findNow (.int kd) (.int kd x) l 0 = some (some (j, e.val)) ∧ l[j]? = some e ∧ m[j]? = some (x, u) ∧ bs[j]? = some b ∧ e.key = .int kd x ∧ thas m x = true ∧ tget T (.user d) m x = u ∧ (∀ a, tset m x a = m.set j (x, a)) ∧ tdel m x = m.eraseIdx j ∧ PV T w S φ r be d op x u e.val b := by
  have hb : ∀ {p : Nat}, p < m.length → ∃ b, bs[p]? = some b := fun {p} hp => ⟨bs[p]'(by rw [← h.lenb]; exact hp), List.getElem?_eq_getElem _⟩
  rcases kfind (x := x) 0 h.len (fun p y u e h1 h2 => by obtain ⟨b, h3⟩ := hb (List.getElem?_eq_some_iff.1 h1).1; exact (h.at_ p y u e b h1 h2 h3).1) with g | ⟨j, e, u, g1, g2, g3, g4, g5, g6, g7, g8⟩
  · exact .inl g
  · obtain ⟨b, hb⟩ := hb (List.getElem?_eq_some_iff.1 g3).1
    exact .inr ⟨j, e, u, b, by rw [g1, Nat.zero_add], g2, g3, hb, g4, g5, g6, g7, g8, (h.at_ j x u e b g3 g2 hb).2⟩
theorem keys_at {α : Type} {m : List (Int × α)} (hn : (m.map Prod.fst).Nodup) {p q : Nat} {x : Int} {a b : α} (hp : m[p]? = some (x, a)) (hq : m[q]? = some (x, b)) : p = q := by
  have h1 := (List.getElem?_eq_some_iff.1 hp).1
  have h2 := (List.getElem?_eq_some_iff.1 hq).1
  refine (List.getElem_inj (h₀ := by simpa using h1) (h₁ := by simpa using h2) hn).1 ?_
  have e1 := (List.getElem?_eq_some_iff.1 hp).2
  have e2 := (List.getElem?_eq_some_iff.1 hq).2
  simp [e1, e2]
theorem opAt_ne {x y : Int} {j : Nat} (h : y ≠ x) : opAt (some (y, j)) x = none := if_neg h
theorem opAt_eq {x : Int} {j : Nat} : opAt (some (x, j)) x = some j := if_pos rfl
theorem nodup_set {α : Type} {m : List (Int × α)} {j : Nat} {x : Int} {u a : α} (h : m[j]? = some (x, u)) : (m.set j (x, a)).map Prod.fst = m.map Prod.fst := by
  refine List.ext_getElem? fun q => ?_
  have hj := (List.getElem?_eq_some_iff.1 h).1
  rw [List.getElem?_map, List.getElem?_map]
  by_cases e : j = q
  · subst e; rw [List.getElem?_set_self hj, h]; rfl
  · rw [List.getElem?_set_ne e]
/-- a map's entry under a key points to an entry's block from now on. -/
theorem PRel.put {r : RA} {kd : IntKind} {be : TypeId} {d : Nat} {m : List (Int × T.U d)} {l : Array MapEntry} {bs : List Nat} {x : Int} {u : T.U d} {j b c : Nat} (h : PRel T w S φ r kd be d m none l.toList bs) (hj : (φ j).ad = some ⟨b, 0, none⟩) (hst : MapKept.Stamped l c) :
    ∃ (l' : Array MapEntry) (c' : Nat) (bs' : List Nat), MapKept.Stamped l' c' ∧ PRel T w S φ r kd be d (tset m x u) (some (x, j)) l'.toList bs' ∧ ∀ {w1 : World} {g : Nat} {t kt et : TypeId}, mapK P t = some (kd, kt, et) → Mp w1 g l c →
      (Instr.mapUpdate t (.map (some g)) (.int kd x) (.pointer (some ⟨b, 0, none⟩))).run P w1 = .ok () { w1 with heap := w1.heap.setIfInBounds g (.map l' c') } := by
  rcases h.find x with ⟨g1, g2, g3, g4, g5, g6⟩ | ⟨p, e, u0, b0, g1, g2, g3, g4, g5, g6, g7, g8, g9, g10⟩
  · refine ⟨l.push { key := .int kd x, val := .pointer (some ⟨b, 0, none⟩), born := c }, c + 1, bs ++ [b], MapKept.stamped_push hst g5, ?_, fun {w1 g t kt et} hmk hm => ?_⟩
    · rw [g3, Array.toList_push]
      have old : ∀ {q : Nat} {y : Int} {v : T.U d}, (m ++ [(x, u)])[q]? = some (y, v) → (m[q]? = some (y, v) ∧ y ≠ x) ∨ (q = m.length ∧ y = x ∧ v = u) := fun {q y v} hq => by
        by_cases hlt : q < m.length
        · rw [List.getElem?_append_left hlt] at hq
          exact .inl ⟨hq, fun e => g6 (e ▸ List.mem_map.2 ⟨(y, v), List.mem_of_getElem? hq, rfl⟩)⟩
        · rw [List.getElem?_append_right (by omega)] at hq
          have : q - m.length = 0 := by have := (List.getElem?_eq_some_iff.1 hq).1; simp at this; omega
          rw [this] at hq; simp at hq
          exact .inr ⟨by omega, hq.1.symm, hq.2.symm⟩
      refine ⟨by simp [h.len], by simp [h.lenb], ?_, fun q y v e1 b1 h1 h2 h3 => ?_, fun q q' y y' v v' b1 hq h1 h2 h3 h4 h5 => ?_, fun y i hy => ?_⟩
      · rw [List.map_append, List.nodup_append]
        refine ⟨h.nd, by simp, fun a ha b hb => ?_⟩
        simp at hb; subst hb; exact fun e => g6 (e ▸ ha)
      · rcases old h1 with ⟨q1, q2⟩ | ⟨rfl, rfl, rfl⟩
        · have hlt := (List.getElem?_eq_some_iff.1 q1).1
          rw [List.getElem?_append_left (by rw [← h.len]; exact hlt)] at h2
          rw [List.getElem?_append_left (by rw [← h.lenb]; exact hlt)] at h3
          obtain ⟨k1, k2, k3, k4⟩ := h.at_ q y v e1 b1 q1 h2 h3
          exact ⟨k1, k2, fun i hi => (by rw [opAt_ne (Ne.symm q2)] at hi; cases hi), fun _ => k4 rfl⟩
        · rw [h.len] at h2; simp at h2
          rw [h.lenb] at h3; simp at h3
          subst h2; subst h3
          exact ⟨rfl, rfl, fun i hi => (by rw [opAt_eq] at hi; cases hi; exact hj), fun hn => (by rw [opAt_eq] at hn; cases hn)⟩
      · rcases old h1 with ⟨q1, q2⟩ | ⟨_, rfl, _⟩
        · rcases old h2 with ⟨r1, r2⟩ | ⟨_, rfl, _⟩
          · have hlt := (List.getElem?_eq_some_iff.1 q1).1
            have hlt' := (List.getElem?_eq_some_iff.1 r1).1
            rw [List.getElem?_append_left (by rw [← h.lenb]; exact hlt)] at h5
            rw [List.getElem?_append_left (by rw [← h.lenb]; exact hlt')]
            exact h.ap q q' y y' v v' b1 hq q1 r1 rfl rfl h5
          · rw [opAt_eq] at h4; cases h4
        · rw [opAt_eq] at h3; cases h3
      · simp only [Option.some.injEq, Prod.mk.injEq] at hy
        rw [← hy.1]; simp
    · obtain ⟨hu, hkd⟩ := mapInfo_spec (mapK_spec hmk)
      have hb : w1.heap[g]? = some (.map l c) := hm
      simp [Instr.mapUpdate, run_underlying hu, MapKept.run_getObj_map hb, MapKept.run_checkKey hkd (show MapKept.IsKey (.int kd) (.int kd x) from rfl), MapKept.run_findKey hkd g1, MapKept.run_setObj_map _ hb, Result.andThen]
  · have g2' : l[p]? = some e := by simpa using g2
    have hlt : p < l.size := by have := (List.getElem?_eq_some_iff.1 g2).1; simpa using this
    have hl' : (l.modify p fun e => { e with key := .int kd x, val := .pointer (some ⟨b, 0, none⟩) }).toList = l.toList.modify p fun e => { e with key := .int kd x, val := .pointer (some ⟨b, 0, none⟩) } := by simp
    refine ⟨l.modify p fun e => { e with key := .int kd x, val := .pointer (some ⟨b, 0, none⟩) }, c, bs.set p b, MapKept.stamped_modify hst p _ (fun _ _ => rfl) fun e1 _ he => ?_, ?_, fun {w1 g t kt et} hmk hm => ?_⟩
    · rw [g2'] at he; have := Option.some.inj he; subst this; exact g5.symm
    · rw [hl', g8]
      have hpl := (List.getElem?_eq_some_iff.1 g3).1
      have old : ∀ {q : Nat} {y : Int} {v : T.U d}, (m.set p (x, u))[q]? = some (y, v) → (q ≠ p ∧ m[q]? = some (y, v) ∧ y ≠ x) ∨ (q = p ∧ y = x) := fun {q y v} hq => by
        by_cases he : p = q
        · subst he; rw [List.getElem?_set_self hpl] at hq; simp at hq; exact .inr ⟨rfl, hq.1.symm⟩
        · rw [List.getElem?_set_ne he] at hq
          exact .inl ⟨Ne.symm he, hq, fun e => he (by subst e; exact keys_at h.nd g3 hq)⟩
      refine ⟨by simp [h.len], by simp [h.lenb], by rw [nodup_set g3]; exact h.nd, fun q y v e1 b1 h1 h2 h3 => ?_, fun q q' y y' v v' b1 hq h1 h2 h3 h4 h5 => ?_, fun y i hy => ?_⟩
      · rcases old h1 with ⟨q0, q1, q2⟩ | ⟨rfl, rfl⟩
        · rw [List.getElem?_modify_ne _ _ (Ne.symm q0)] at h2
          rw [List.getElem?_set_ne (Ne.symm q0)] at h3
          obtain ⟨k1, k2, k3, k4⟩ := h.at_ q y v e1 b1 q1 h2 h3
          exact ⟨k1, k2, fun i hi => (by rw [opAt_ne (Ne.symm q2)] at hi; cases hi), fun _ => k4 rfl⟩
        · rw [List.getElem?_modify_eq, g2] at h2
          rw [List.getElem?_set_self (by rw [← h.lenb]; exact hpl)] at h3
          simp at h2 h3
          subst h2; subst h3
          exact ⟨rfl, rfl, fun i hi => (by rw [opAt_eq] at hi; cases hi; exact hj), fun hn => (by rw [opAt_eq] at hn; cases hn)⟩
      · rcases old h1 with ⟨q0, q1, q2⟩ | ⟨_, rfl⟩
        · rcases old h2 with ⟨r0, r1, r2⟩ | ⟨_, rfl⟩
          · rw [List.getElem?_set_ne (Ne.symm q0)] at h5
            rw [List.getElem?_set_ne (Ne.symm r0)]
            exact h.ap q q' y y' v v' b1 hq q1 r1 rfl rfl h5
          · rw [opAt_eq] at h4; cases h4
        · rw [opAt_eq] at h3; cases h3
      · simp only [Option.some.injEq, Prod.mk.injEq] at hy
        rw [nodup_set g3, ← hy.1]; exact List.mem_map.2 ⟨_, List.mem_of_getElem? g3, rfl⟩
    · obtain ⟨hu, hkd⟩ := mapInfo_spec (mapK_spec hmk)
      have hb : w1.heap[g]? = some (.map l c) := hm
      have g2'' : l[p] = e := by rw [Array.getElem?_eq_getElem hlt] at g2'; exact Option.some.inj g2'
      simp [Instr.mapUpdate, run_underlying hu, MapKept.run_getObj_map hb, MapKept.run_checkKey hkd (show MapKept.IsKey (.int kd) (.int kd x) from rfl), MapKept.run_findKey hkd g1, MapKept.run_setObj_map _ hb, Result.andThen, g2', g2'', g5, MapKept.run_keyThatStays (show MapKept.IsKey (.int kd) (.int kd x) from rfl)]
/-- a key is taken out. -/
theorem PRel.out {r : RA} {kd : IntKind} {be : TypeId} {d : Nat} {m : List (Int × T.U d)} {op : Option (Int × Nat)} {l : Array MapEntry} {bs : List Nat} {x : Int} {c : Nat} (h : PRel T w S φ r kd be d m op l.toList bs) (hop : ∀ y j, op = some (y, j) → y = x) (hst : MapKept.Stamped l c) :
    ∃ (l' : Array MapEntry) (bs' : List Nat), MapKept.Stamped l' c ∧ PRel T w S φ r kd be d (tdel m x) none l'.toList bs' ∧ ∀ {w1 : World} {g : Nat} {t kt et ty' : TypeId} {at2 : List TypeId}, mapK P t = some (kd, kt, et) → Mp w1 g l c →
      ∃ w2, (Builtin.delete_ (t :: at2).toArray ty' #[.map (some g), .int kd x]).run P w1 = .ok (.tuple #[]) w2 ∧ (w2 = w1 ∧ l' = l ∨ w2 = { w1 with heap := w1.heap.setIfInBounds g (.map l' c) }) := by
  have hopn : ∀ y, y ≠ x → opAt op y = none := fun y hy => by
    cases op with
    | none => rfl
    | some p => obtain ⟨z, j⟩ := p; rw [hop z j rfl]; exact opAt_ne (Ne.symm hy)
  rcases h.find x with ⟨g1, g2, g3, g4, g5, g6⟩ | ⟨p, e, u0, b0, g1, g2, g3, g4, g5, g6, g7, g8, g9, g10⟩
  · have hne : ∀ {q : Nat} {y : Int} {v : T.U d}, m[q]? = some (y, v) → y ≠ x := fun {q y v} hq e => g6 (e ▸ List.mem_map.2 ⟨(y, v), List.mem_of_getElem? hq, rfl⟩)
    refine ⟨l, bs, hst, ?_, fun {w1 g t kt et ty' at2} hmk hm => ⟨w1, ?_, .inl ⟨rfl, rfl⟩⟩⟩
    · rw [g4]
      refine ⟨h.len, h.lenb, h.nd, fun q y v e1 b1 h1 h2 h3 => ?_, fun q q' y y' v v' b1 hq h1 h2 _ _ => h.ap q q' y y' v v' b1 hq h1 h2 (hopn y (hne h1)) (hopn y' (hne h2)), fun y j hy => (by cases hy)⟩
      obtain ⟨k1, k2, k3, k4⟩ := h.at_ q y v e1 b1 h1 h2 h3
      exact ⟨k1, k2, fun i hi => (by cases hi), fun _ => k4 (hopn y (hne h1))⟩
    · obtain ⟨hu, hkd⟩ := mapInfo_spec (mapK_spec hmk)
      have hb : w1.heap[g]? = some (.map l c) := hm
      have hself : w1.heap.setIfInBounds g (.map l c) = w1.heap := by
        refine Array.ext_getElem? fun q => ?_
        by_cases e : g = q
        · subst e
          have := (Array.getElem?_eq_some_iff.1 hb).1
          rw [Array.getElem?_setIfInBounds_self_of_lt this, hb]
        · rw [Array.getElem?_setIfInBounds_ne e]
      simp [Builtin.delete_, run_underlying hu, MapKept.run_getObj_map hb, MapKept.run_checkKey hkd (show MapKept.IsKey (.int kd) (.int kd x) from rfl), MapKept.run_findKey hkd g1, MapKept.run_setObj_map _ hb, Result.andThen, hself]
  · have hlt : p < l.size := by have := (List.getElem?_eq_some_iff.1 g2).1; simpa using this
    refine ⟨l.eraseIdxIfInBounds p, bs.eraseIdx p, MapKept.stamped_erase hst p, ?_, fun {w1 g t kt et ty' at2} hmk hm => ⟨_, ?_, .inr rfl⟩⟩
    · have hel : (l.eraseIdxIfInBounds p).toList = l.toList.eraseIdx p := by
        unfold Array.eraseIdxIfInBounds
        rw [dif_pos hlt, Array.toList_eraseIdx]
      rw [hel, g9]
      let f : Nat → Nat := fun q => if q < p then q else q + 1
      have fe : ∀ {α : Type} (a : List α) (q : Nat), (a.eraseIdx p)[q]? = a[f q]? := fun a q => by
        rw [List.getElem?_eraseIdx]; simp only [f]; split <;> rfl
      have fp : ∀ q, f q ≠ p := fun q => by simp only [f]; split <;> omega
      have fi : ∀ q q', q ≠ q' → f q ≠ f q' := fun q q' hq => by simp only [f]; split <;> split <;> omega
      have hne : ∀ {q : Nat} {y : Int} {v : T.U d}, m[f q]? = some (y, v) → y ≠ x := fun {q y v} hq e => by
        subst e; exact fp q (keys_at h.nd hq g3)
      have hpl := (List.getElem?_eq_some_iff.1 g3).1
      refine ⟨by rw [List.length_eraseIdx_of_lt hpl, List.length_eraseIdx_of_lt (by rw [← h.len]; exact hpl), h.len], by rw [List.length_eraseIdx_of_lt hpl, List.length_eraseIdx_of_lt (by rw [← h.lenb]; exact hpl), h.lenb], ?_, fun q y v e1 b1 h1 h2 h3 => ?_, fun q q' y y' v v' b1 hq h1 h2 _ _ h5 => ?_, fun y j hy => by cases hy⟩
      · exact h.nd.sublist ((List.eraseIdx_sublist _ _).map _)
      · rw [fe] at h1 h2 h3
        obtain ⟨k1, k2, k3, k4⟩ := h.at_ _ y v e1 b1 h1 h2 h3
        exact ⟨k1, k2, fun i hi => (by cases hi), fun _ => k4 (hopn y (hne h1))⟩
      · rw [fe] at h1 h2 h5 ⊢
        exact h.ap _ _ y y' v v' b1 (fi q q' hq) h1 h2 (hopn y (hne h1)) (hopn y' (hne h2)) h5
    · obtain ⟨hu, hkd⟩ := mapInfo_spec (mapK_spec hmk)
      have hb : w1.heap[g]? = some (.map l c) := hm
      simp [Builtin.delete_, run_underlying hu, MapKept.run_getObj_map hb, MapKept.run_checkKey hkd (show MapKept.IsKey (.int kd) (.int kd x) from rfl), MapKept.run_findKey hkd g1, MapKept.run_setObj_map _ hb, Result.andThen]
/-- such a map is written. -/
theorem Sim.pput {i g : Nat} {kd : IntKind} {be : TypeId} {d : Nat} {m m' : List (Int × T.U d)} {op op' : Option (Int × Nat)} {l l' : Array MapEntry} {c c' : Nat} {bs' : List Nat} (h : Sim T w0 S0 ⟨F, H⟩ F' w S φ) (hHi : H[i]? = some (.pmap kd be d m op)) (hg : (φ i).ad = some ⟨g, 0, none⟩) (hm : Mp w g l c) (hgS : g ∈ S)
    (ht : PRel T w S φ (φ i) kd be d m' op' l'.toList bs') (hst : MapKept.Stamped l' c') (hids : ∀ q ∈ idsP op', q < H.length) : Sim T w0 S0 ⟨F, H.set i (.pmap kd be d m' op')⟩ F' { w with heap := w.heap.setIfInBounds g (.map l' c') } S φ := by
  have hset := MapKept.heap_set (o' := .map l' c') hm
  have hC : Chg [g] w { w with heap := w.heap.setIfInBounds g (.map l' c') } := ⟨rfl, rfl, rfl, by simp, fun r _ hr => hset.2 r (by simpa using hr)⟩
  refine h.upd hHi rfl hC ?_ ⟨g, _, _, bs', hg, hset.1, hgS, ht.chg T hC ?_ (fun b hb => .inl hb) fun b _ hne hb => ?_, hst⟩ hids ?_
  · intro b hb; simp at hb; subst hb; exact ⟨_, .inl hg, rfl⟩
  · intro b hb; simp at hb; subst hb; exact hgS
  · simp at hb; subst hb; exact hne _ hg rfl
  · intro e1 t1 xs he; cases he
/-- what a key points to is opened. -/
theorem Sim.openP (h : Sim T w0 S0 ⟨F, H⟩ F' w S φ) {i : Nat} {kd : IntKind} {be : TypeId} {d : Nat} {m : List (Int × T.U d)} {x : Int} (hHi : H[i]? = some (.pmap kd be d m none)) (hx : thas m x = true) :
    ∃ (φ' : Nat → RA) (b g : Nat) (l : Array MapEntry) (c p : Nat), (φ i).ad = some ⟨g, 0, none⟩ ∧ Mp w g l c ∧ Instr.findNow (.int kd) (.int kd x) l.toList 0 = some (some (p, .pointer (some ⟨b, 0, none⟩))) ∧ (φ' H.length).ad = some ⟨b, 0, none⟩ ∧
      Sim T w0 S0 ⟨F, H.set i (.pmap kd be d m (some (x, H.length))) ++ [.blk be (T.bl d (tget T (.user d) m x))]⟩ F' w S φ' := by
  obtain ⟨g, l, c, bs, a1, a2, a3, a4, a5⟩ := h.ents i _ hHi
  rcases a4.find x with ⟨_, g2, _⟩ | ⟨p, e, u, b, g1, g2, g3, g4, g5, g6, g7, g8, g9, g10⟩
  · rw [hx] at g2; cases g2
  obtain ⟨hv, _, hcl⟩ := g10
  obtain ⟨hbx, hbr, cb, hblk, hbr2⟩ := hcl rfl
  have hil := (List.getElem?_eq_some_iff.1 hHi).1
  let φ' : Nat → RA := fun n => if n = H.length then ⟨some ⟨b, 0, none⟩, 0, 0, []⟩ else if n = i then ⟨(φ i).ad, (φ i).n, (φ i).cap, (φ i).xs.filter fun b' => b' != b⟩ else φ n
  have pn : φ' H.length = ⟨some ⟨b, 0, none⟩, 0, 0, []⟩ := if_pos rfl
  have pi : φ' i = ⟨(φ i).ad, (φ i).n, (φ i).cap, (φ i).xs.filter fun b' => b' != b⟩ := by show (if _ then _ else _) = _; rw [if_neg (by omega), if_pos rfl]
  have po : ∀ n, n < H.length → n ≠ i → φ' n = φ n := fun n hn hne => by show (if _ then _ else _) = _; rw [if_neg (by omega), if_neg hne]
  have hs : ∀ n, n < H.length → RSame (φ' n) (φ n) := fun n hn => by
    by_cases he : n = i
    · subst he; rw [pi]; exact ⟨rfl, rfl, rfl⟩
    · rw [po n hn he]; exact .of rfl
  have hati : ∀ {a}, At (φ' i) a → At (φ i) a ∧ a.block ≠ b := fun {a} ha => by
    rw [pi] at ha
    rcases ha with ha | ha
    · exact ⟨.inl ha, hbr a ha⟩
    · obtain ⟨h1, h2⟩ := List.mem_filter.1 ha
      exact ⟨.inr h1, by simpa using h2⟩
  have hatn : ∀ {a}, At (φ' H.length) a → a.block = b := fun {a} ha => by
    rw [pn] at ha
    rcases ha with ha | ha
    · simp only [Option.some.injEq] at ha; rw [← ha]
    · cases ha
  have get : ∀ (n : Nat) (f : Ent T.U), (H.set i (.pmap kd be d m (some (x, H.length))) ++ [Ent.blk be (T.bl d (tget T (.user d) m x))])[n]? = some f → (n = i ∧ f = .pmap kd be d m (some (x, H.length))) ∨ (n < H.length ∧ n ≠ i ∧ H[n]? = some f) ∨ (n = H.length ∧ f = .blk be (T.bl d (tget T (.user d) m x))) := by
    intro n f hf
    by_cases hn : n < H.length
    · rw [List.getElem?_append_left (by simpa using hn)] at hf
      by_cases he : n = i
      · subst he; rw [List.getElem?_set_self hil] at hf; exact .inl ⟨rfl, (Option.some.inj hf).symm⟩
      · rw [List.getElem?_set_ne (Ne.symm he)] at hf; exact .inr (.inl ⟨hn, he, hf⟩)
    · rw [List.getElem?_append_right (by simp; omega)] at hf
      simp only [List.length_set] at hf
      have : n - H.length = 0 := by have := (List.getElem?_eq_some_iff.1 hf).1; simp at this; omega
      rw [this] at hf; simp at hf
      exact .inr (.inr ⟨by omega, hf.symm⟩)
  refine ⟨φ', b, g, l, c, p, a1, a2, by rw [g1, hv], by rw [pn], h.ghost (by simp) hs (fun n e1 t ys hn hy => ?_) (fun n f hf hl a ha => ?_) (fun n f hf => ?_) (fun n f hf j hj => ?_) (fun n n' f f' hf hf' hl hl' hne a a' ha ha' => ?_)⟩
  · rcases get n _ hy with ⟨_, q⟩ | ⟨_, _, q⟩ | ⟨q, _⟩
    · cases q
    · exact q
    · omega
  · rcases get n f hf with ⟨rfl, rfl⟩ | ⟨q1, q2, q3⟩ | ⟨rfl, rfl⟩
    · exact ⟨n, _, a, hHi, rfl, (hati ha).1, rfl⟩
    · rw [po n q1 q2] at ha; exact ⟨n, f, a, q3, hl, ha, rfl⟩
    · exact ⟨i, _, ⟨b, 0, none⟩, hHi, rfl, .inr hbx, (hatn ha).symm⟩
  · rcases get n f hf with ⟨rfl, rfl⟩ | ⟨q1, q2, q3⟩ | ⟨rfl, rfl⟩
    · refine ⟨g, l, c, bs, by rw [pi]; exact a1, a2, a3, ⟨a4.len, a4.lenb, a4.nd, fun q y v e1 b1 h1 h2 h3 => ?_, fun q q' y y' v v' b1 hq h1 h2 _ _ => a4.ap q q' y y' v v' b1 hq h1 h2 rfl rfl, fun y j hy => ?_⟩, a5⟩
      · obtain ⟨k1, k2, k3, k4⟩ := a4.at_ q y v e1 b1 h1 h2 h3
        refine ⟨k1, k2, fun j hj => ?_, fun hn => ?_⟩
        · by_cases hyx : x = y
          · subst hyx
            rw [opAt_eq] at hj; cases hj
            obtain rfl := keys_at a4.nd h1 g3
            rw [g4] at h3; cases h3
            rw [pn]
          · rw [opAt_ne hyx] at hj; cases hj
        · obtain ⟨u1, u2, u3⟩ := k4 rfl
          have hyx : x ≠ y := fun e => by subst e; rw [opAt_eq] at hn; cases hn
          rw [pi]
          refine ⟨List.mem_filter.2 ⟨u1, ?_⟩, u2, u3.renS T⟩
          have : b1 ≠ b := fun e => by
            subst e
            exact a4.ap q p y x v u b1 (fun e => by subst e; rw [g3] at h1; simp at h1; exact hyx h1.1) h1 g3 rfl rfl h3 g4
          simpa using this
      · simp only [Option.some.injEq, Prod.mk.injEq] at hy
        rw [← hy.1]; exact List.mem_map.2 ⟨_, List.mem_of_getElem? g3, rfl⟩
    · exact (h.ents n f q3).phiE (po n q1 q2) fun j hj => hs j (h.eids n f q3 j hj)
    · obtain ⟨c2, w1, w2⟩ := PB.renS T (φ' := φ') ⟨cb, hblk, hbr2⟩
      exact ⟨b, c2, by rw [pn], w1, liveAt h hHi rfl (a := ⟨b, 0, none⟩) (.inr hbx), by rw [g7]; exact w2⟩
  · have hlen : (H.set i (.pmap kd be d m (some (x, H.length))) ++ [Ent.blk be (T.bl d (tget T (.user d) m x))]).length = H.length + 1 := by simp
    rw [hlen]
    rcases get n f hf with ⟨rfl, rfl⟩ | ⟨q1, q2, q3⟩ | ⟨rfl, rfl⟩
    · simp [Ent.cellIds, idsP] at hj; omega
    · have := h.eids n f q3 j hj; simp only at this; omega
    · have hj : j ∈ idsL (T.bl d (tget T (.user d) m x)) := hj
      have h0 : idsL (T.bl d (tget T (.user d) m x)) = [] := T.bl0 d _
      exact absurd (h0 ▸ hj : j ∈ ([] : List Nat)) (by simp)
  · rcases get n f hf with ⟨rfl, rfl⟩ | ⟨q1, q2, q3⟩ | ⟨rfl, rfl⟩ <;> rcases get n' f' hf' with ⟨rfl, rfl⟩ | ⟨u1, u2, u3⟩ | ⟨rfl, rfl⟩
    · exact absurd rfl hne
    · rw [po n' u1 u2] at ha'; exact h.apart n n' _ _ hHi u3 rfl hl' hne a a' (hati ha).1 ha'
    · rw [hatn ha']; exact (hati ha).2
    · rw [po n q1 q2] at ha; exact h.apart n n' _ _ q3 hHi hl rfl hne a a' ha (hati ha').1
    · rw [po n q1 q2] at ha; rw [po n' u1 u2] at ha'; exact h.apart n n' _ _ q3 u3 hl hl' hne a a' ha ha'
    · rw [po n q1 q2] at ha; rw [hatn ha']; exact h.apart n i _ _ q3 hHi hl rfl q2 a ⟨b, 0, none⟩ ha (.inr hbx)
    · rw [hatn ha]; exact (hati ha').2.symm
    · rw [po n' u1 u2] at ha'; rw [hatn ha]; exact h.apart i n' _ _ hHi u3 rfl hl' (Ne.symm u2) ⟨b, 0, none⟩ a' (.inr hbx) ha'
    · exact absurd rfl hne
theorem insM_sound {R : Type} {r : R} {t : TypeId} {xm xk xv : Operand} (hd : dec ops k n F' = some o) (hop : o.op = .insert t xm xk xv ∨ o.op = .mapUpdate t xm xk xv) {K : St T → Option R} (hz : insM P o ⟨F, H⟩ K t xm xk xv = some (some r)) (h : Sim T w0 S0 ⟨F, H⟩ F' w S φ)
    (HK : ∀ st, K st = some r → Kont P ops Q (k + 1) n ds w0 S0 st) : WR P ops Q k n ds F' w := by
  unfold insM at hz
  split at hz <;> try (cases hz; done)
  rename_i i kx x a hdst hm hk hv
  split at hz <;> try (cases hz; done)
  rename_i k' be d m op hHi
  simp only [Option.some.injEq] at hz
  split at hz <;> try (cases hz; done)
  rename_i et hko
  obtain ⟨rfl, kt, hmk⟩ := kindsOk_spec hko
  obtain ⟨M, h1, h2⟩ := aev_rel h.fr hm
  obtain ⟨X, h3, h4⟩ := aev_rel h.fr hk
  obtain ⟨V, h5, h6⟩ := aev_rel h.fr hv
  have e := cint_rel h4; subst e
  obtain ⟨g, hg, rfl⟩ := h2
  unfold insP at hz
  split at hz <;> try (cases hz; done)
  rename_i j off
  split at hz <;> try (cases hz; done)
  rename_i be' cs hHj h0
  have := Nat.eq_of_beq_eq_true h0; subst this
  split at hz <;> try (cases hz; done)
  rename_i hbe
  have := Nat.eq_of_beq_eq_true hbe; subst this
  obtain ⟨b, hb, rfl⟩ := h6
  obtain ⟨g', l, c, bs, a1, a2, a3, a4, a5⟩ := h.ents i _ hHi
  rw [hg] at a1; simp only [Option.some.injEq, Addr.mk.injEq, and_true] at a1; subst a1
  have hrun : ∀ {w2 : World}, (Instr.mapUpdate t (.map (some g)) (.int kx x) (.pointer (some ⟨b, 0, none⟩))).run P w = .ok () w2 → (execOp (evD F') o).run P w = .ok .skip w2 := fun {w2} hr => by
    rcases hop with hop | hop
    · cases o; simp only at hop hdst; subst hop; subst hdst
      simp [execOp, evD_of h1, evD_of h3, evD_of h5, hr]
    · cases o; simp only at hop hdst; subst hop; subst hdst
      simp [execOp, evD_of h1, evD_of h3, evD_of h5, hr]
  split at hz
  · split at hz <;> try (cases hz; done)
    rename_i u hu
    obtain ⟨l', c', bs', p1, p2, p3⟩ := a4.put (P := P) (x := x) (u := u) (j := j) (b := b) hb a5
    refine WR.skip hd (hrun (p3 hmk a2)) ?_
    rw [hdst]
    exact HK _ hz _ _ ⟨S, φ, h.pput hHi hg a2 a3 p2 p1 fun q hq => by simp [idsP] at hq; subst hq; exact (List.getElem?_eq_some_iff.1 hHj).1⟩
  · rename_i y j'
    split at hz <;> try (cases hz; done)
    rename_i hjj
    have := Nat.eq_of_beq_eq_true hjj; subst this
    split at hz <;> try (cases hz; done)
    rename_i hyx
    subst hyx
    rcases a4.find y with ⟨_, _, _, _, _, q⟩ | ⟨p, e, u0, b0, g1, g2, g3, g4, g5, g6, g7, g8, g9, g10⟩
    · exact absurd (a4.opn y j' rfl) q
    obtain ⟨hev, hej, _⟩ := g10
    have := hej j' opAt_eq
    rw [hb] at this; simp only [Option.some.injEq, Addr.mk.injEq, and_true] at this; subst this
    have hb' : w.heap[g]? = some (.map l c) := a2
    have g2' : l[p]? = some e := by simpa using g2
    have hlt : p < l.size := by have := (List.getElem?_eq_some_iff.1 g2).1; simpa using this
    have g2'' : l[p] = e := by rw [Array.getElem?_eq_getElem hlt] at g2'; exact Option.some.inj g2'
    obtain ⟨hu, hkd⟩ := mapInfo_spec (mapK_spec hmk)
    have hr : (Instr.mapUpdate t (.map (some g)) (.int kx y) (.pointer (some ⟨b, 0, none⟩))).run P w = .ok () { w with heap := w.heap.setIfInBounds g (.map (l.modify p fun e => { e with key := .int kx y, val := .pointer (some ⟨b, 0, none⟩) }) c) } := by
      simp [Instr.mapUpdate, run_underlying hu, MapKept.run_getObj_map hb', MapKept.run_checkKey hkd (show MapKept.IsKey (.int kx) (.int kx y) from rfl), MapKept.run_findKey hkd g1, MapKept.run_setObj_map _ hb', Result.andThen, g2', g2'', g5, MapKept.run_keyThatStays (show MapKept.IsKey (.int kx) (.int kx y) from rfl)]
    have hl' : (l.modify p fun e => { e with key := .int kx y, val := .pointer (some ⟨b, 0, none⟩) }) = l := by
      refine Array.ext_getElem? fun q => ?_
      rw [Array.getElem?_modify]
      split
      · rename_i hq
        subst hq
        rw [g2']
        obtain ⟨ek, ev, eb⟩ := e
        simp only at hev g5; subst hev; subst g5; rfl
      · rfl
    refine WR.skip hd (hrun hr) ?_
    rw [hdst, hl']
    have hself : w.heap.setIfInBounds g (.map l c) = w.heap := by
      refine Array.ext_getElem? fun q => ?_
      by_cases e : g = q
      · subst e
        have := (Array.getElem?_eq_some_iff.1 hb').1
        rw [Array.getElem?_setIfInBounds_self_of_lt this, hb']
      · rw [Array.getElem?_setIfInBounds_ne e]
    rw [hself]
    exact HK _ hz _ _ ⟨S, φ, h⟩
theorem stepM_sound {R : Type} {r : R} (hd : dec ops k n F' = some o) {K : St T → Option R} (hz : stepM P C o ⟨F, H⟩ K = some (some r)) (h : Sim T w0 S0 ⟨F, H⟩ F' w S φ)
    (HK : ∀ st, K st = some r → Kont P ops Q (k + 1) n ds w0 S0 st) : WR P ops Q k n ds F' w := by
  unfold stepM at hz
  split at hz <;> try (cases hz; done)
  · rename_i t hop
    split at hz <;> try (cases hz; done)
    rename_i kd kt et be d hmk hpm
    simp only [Option.some.injEq] at hz
    have hdm : decMkMap ops k n F' = some (o.dst, t) := by
      unfold decMkMap; rw [hd]; cases o; simp only at hop; subst hop; rfl
    refine WR.mkMap hdm fun g w' hN => HK _ hz _ _ ⟨g :: S, setR φ H.length ⟨some ⟨g, 0, none⟩, 0, 0, []⟩, ?_⟩
    have h1 := h.add (r := ⟨some ⟨g, 0, none⟩, 0, 0, []⟩) hN.chg hN.fresh hN.blk.lt (fun a ha => at_new ha) (e := .pmap kd be d [] none)
      ⟨g, #[], 0, [], by rw [setR_eq], hN.blk, by simp, ⟨rfl, rfl, by simp, fun p x u e b h1 => by simp at h1, fun p p' x x' u u' b _ h1 => by simp at h1, fun x j hx => by cases hx⟩, MapKept.stamped_empty 0⟩ (by intro j hj; cases hj)
    exact h1.slot ⟨g, by rw [setR_eq], rfl⟩ ⟨by intro i hi; simp [AV.ids] at hi; subst hi; simp, trivial⟩
  · rename_i t xm xk hop
    split at hz <;> try (cases hz; done)
    rename_i i kx x hm hk
    split at hz <;> try (cases hz; done)
    rename_i k' be d m hHi
    simp only [Option.some.injEq] at hz
    split at hz <;> try (cases hz; done)
    rename_i et hko
    obtain ⟨rfl, kt, hmk⟩ := kindsOk_spec hko
    split at hz <;> try (cases hz; done)
    rename_i hnp
    have hzv : (P.info? et).bind (·.zero) = some (.pointer none) := by
      unfold nilPtr at hnp
      split at hnp
      · assumption
      · cases hnp
    obtain ⟨M, h1, h2⟩ := aev_rel h.fr hm
    obtain ⟨X, h3, h4⟩ := aev_rel h.fr hk
    have e := cint_rel h4; subst e
    obtain ⟨g, hg, rfl⟩ := h2
    have hdl : decLookup ops k n F' = some (o.dst, t, .map (some g), .int kx x, false) := by
      unfold decLookup; rw [hd]; cases o; simp only at hop; subst hop; simp only [evD_of h1, evD_of h3]
    rcases forkB_cases hz with ⟨hx, hz⟩ | ⟨hx, hz⟩
    · obtain ⟨φ', b, g', l, c, p, a1, a2, a3, a4, a5⟩ := h.openP hHi hx
      rw [hg] at a1; simp only [Option.some.injEq, Addr.mk.injEq, and_true] at a1; subst a1
      have hr := run_lookup (P := P) a2 hdl (mapK_spec hmk) rfl _ a3 hzv _ rfl
      unfold decRun at hr
      rw [hd] at hr
      simp only [Option.some.injEq, Prod.mk.injEq] at hr
      exact WR.val hd hr.2 (HK _ hz _ _ ⟨S, φ', a5.slot (a := .ptr H.length 0) ⟨b, a4, rfl⟩ ⟨by intro q hq; simp [AV.ids] at hq; subst hq; simp, trivial⟩⟩)
    · obtain ⟨g', l, c, bs, a1, a2, a3, a4, a5⟩ := h.ents i _ hHi
      rw [hg] at a1; simp only [Option.some.injEq, Addr.mk.injEq, and_true] at a1; subst a1
      rcases a4.find x with ⟨g1, _⟩ | ⟨p, e, u, b, _, _, _, _, _, g6, _⟩
      · have hr := run_lookup (P := P) a2 hdl (mapK_spec hmk) rfl _ g1 hzv _ rfl
        unfold decRun at hr
        rw [hd] at hr
        simp only [Option.some.injEq, Prod.mk.injEq] at hr
        exact WR.val hd hr.2 (HK _ hz _ _ ⟨S, φ, h.slot (a := .raw (.pointer none)) rfl ⟨fun i hi => (by cases hi), trivial⟩⟩)
      · rw [hx] at g6; cases g6
  · rename_i hop
    exact insM_sound hd (.inl hop) hz h HK
  · rename_i hop
    exact insM_sound hd (.inr hop) hz h HK
  · rename_i c hop
    split at hz <;> try (cases hz; done)
    rename_i hc
    split at hz <;> try (cases hz; done)
    rename_i i kx x t at2 has hat
    split at hz <;> try (cases hz; done)
    rename_i k' be d m op hHi
    simp only [Option.some.injEq] at hz
    split at hz <;> try (cases hz; done)
    rename_i et hko
    obtain ⟨rfl, kt, hmk⟩ := kindsOk_spec hko
    obtain ⟨xm, xk, ha, hm, hk⟩ : ∃ xm xk, c.args.toList = [xm, xk] ∧ aev T F xm = some (.mp i) ∧ aev T F xk = some (cI T kx x) := by
      generalize c.args.toList = l at has
      match l, has with
      | [], h => simp [aevL] at h
      | [a], h =>
        simp only [aevL] at h
        split at h <;> try (cases h; done)
        rename_i h1 h2
        simp only [Option.some.injEq] at h2; subst h2
        simp at h
      | [a, b], h =>
        simp only [aevL] at h
        split at h <;> try (cases h; done)
        rename_i a' l' h1 h2
        split at h2 <;> try (cases h2; done)
        rename_i b' l'' h3 h4
        simp only [Option.some.injEq, List.cons.injEq] at h h2 h4
        subst h2; subst h4
        simp at h
        exact ⟨a, b, rfl, by rw [h1, h.1], by rw [h3, h.2]⟩
      | a :: b :: e :: r, h =>
        exfalso
        have : ∀ (l : List Operand) (q : List (AV T.U)), aevL T F l = some q → q.length = l.length := by
          intro l
          induction l with
          | nil => intro q hq; simp [aevL] at hq; subst hq; rfl
          | cons a r ih =>
            intro q hq
            simp only [aevL] at hq
            split at hq
            · rename_i b l h1 h2
              simp at hq; subst hq; simp [ih _ h2]
            · cases hq
        have := this _ _ h
        simp at this
    have hargs : c.args = #[xm, xk] := by rw [← Array.toArray_toList (xs := c.args), ha]
    have hatt : c.argTypes = (t :: at2).toArray := by rw [← hat]
    obtain ⟨M, h1, h2⟩ := aev_rel h.fr hm
    obtain ⟨X, h3, h4⟩ := aev_rel h.fr hk
    have e := cint_rel h4; subst e
    obtain ⟨g, hg, rfl⟩ := h2
    obtain ⟨g', l, cl, bs, a1, a2, a3, a4, a5⟩ := h.ents i _ hHi
    rw [hg] at a1; simp only [Option.some.injEq, Addr.mk.injEq, and_true] at a1; subst a1
    have key : K ⟨updA T F o.dst (.tup []), H.set i (.pmap kx be d (tdel m x) none)⟩ = some r ∧ ∀ y j, op = some (y, j) → y = x := by
      unfold delP at hz
      split at hz
      · exact ⟨hz, fun y j hy => by cases hy⟩
      · split at hz <;> try (cases hz; done)
        rename_i hyx
        exact ⟨hz, fun y j hy => by cases hy; exact hyx⟩
    obtain ⟨l', bs', p1, p2, p3⟩ := a4.out (P := P) (x := x) key.2 a5
    obtain ⟨w2, p4, p5⟩ := p3 (ty' := o.type) (at2 := at2) hmk a2
    have hs : Sim T w0 S0 ⟨F, H.set i (.pmap kx be d (tdel m x) none)⟩ F' w2 S φ := by
      have := h.pput hHi hg a2 a3 p2 p1 (fun q hq => by cases hq)
      rcases p5 with ⟨rfl, rfl⟩ | rfl
      · have hself : w2.heap.setIfInBounds g (.map l' cl) = w2.heap := by
          refine Array.ext_getElem? fun q => ?_
          by_cases e : g = q
          · subst e
            have hb' : w2.heap[g]? = some (.map l' cl) := a2
            have := (Array.getElem?_eq_some_iff.1 hb').1
            rw [Array.getElem?_setIfInBounds_self_of_lt this, hb']
          · rw [Array.getElem?_setIfInBounds_ne e]
        rw [hself] at this; exact this
      · exact this
    refine val_wr' (v := .tuple #[]) hd (w' := w2) ?_ (HK _ key.1 _ _ ⟨S, φ, hs.slot (a := .tup []) ⟨#[], rfl, trivial⟩ ⟨fun i hi => (by cases hi), trivial⟩⟩)
    rw [← hatt] at p4
    cases o; simp only at hop p4; subst hop
    simp [execOp, resolve, hc, invoke, builtin, hargs, evD_of h1, evD_of h3, p4]
end
end Go.X
