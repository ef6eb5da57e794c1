/- A region of a drawn order: its operations' notes, drawn out of its evaluation. Nothing here is about one program. -/
import Derived.Test.YtjjlcenmifcaeaaXF
namespace Go.X
open Go.RowKit Go.V

structure Rec (T : Tab) where
  o : Oper
  d : DR
  skip : Bool
  F : AF T
  Hm : List (Ent T.U)
  a : AV T.U
  H1 : List (Ent T.U)
  dead : Bool
  loc : Option (Nat × Nat × Option (AV T.U))
section
variable {T : Tab}
/-- what an operation puts into an entry. -/
def upR (r : Rec T) (e : Nat) : Option (Ent T.U) :=
  match r.skip with
  | true => none
  | false => match r.loc with
    | some _ => none
    | none => if e < r.d.nb then (if e ∈ r.d.tch ∧ e ∈ r.d.wr then r.H1[e]? else none) else r.H1[e]?
/-- what it makes of an entry. -/
def upG (r : Rec T) (e : Nat) (x : Ent T.U) : Ent T.U := match r.loc with | some (k, c, some v) => (if e = k then setE c v x else x) | _ => (upR r e).getD x
/-- it makes something of it. -/
def acts (r : Rec T) (e : Nat) : Prop := upR r e ≠ none ∨ ∃ c v, r.loc = some (e, c, some v)
theorem upG_none {r : Rec T} (h : r.loc = none) (e : Nat) (x : Ent T.U) : upG r e x = (upR r e).getD x := by unfold upG; rw [h]
theorem upG_id {r : Rec T} {e : Nat} (h : ¬ acts r e) (x : Ent T.U) : upG r e x = x := by
  have h1 : upR r e = none := Classical.byContradiction fun hn => h (.inl hn)
  unfold upG
  split
  · rename_i k c v hl
    split
    · rename_i he; subst he; exact absurd (.inr ⟨c, v, hl⟩) h
    · rfl
  · rw [h1]; rfl
/-- entries, slots, behind those operations of which D tells. -/
def hF (D : Nat → Bool) : List (Rec T) → (Nat → Ent T.U) → Nat → Ent T.U
  | [], f => f
  | r :: rs, f => hF D rs (match D r.d.j with | true => fun e => upG r e (f e) | false => f)
def fF (D : Nat → Bool) : List (Rec T) → (Nat → Option (AV T.U)) → Nat → Option (AV T.U)
  | [], f => f
  | r :: rs, f => fF D rs (match r.o.dst with | some d => (fun t => if t = d then (match D r.d.j with | true => some r.a | false => f t) else f t) | none => f)
def base (H0 : List (Ent T.U)) (e : Nat) : Ent T.U := (H0[e]?).getD .gone
def allD : Nat → Bool := fun _ => true
theorem hF_app (D : Nat → Bool) : ∀ (ps qs : List (Rec T)) (f : Nat → Ent T.U), hF D (ps ++ qs) f = hF D qs (hF D ps f)
  | [], _, _ => rfl
  | r :: ps, qs, f => hF_app D ps qs _
theorem fF_app (D : Nat → Bool) : ∀ (ps qs : List (Rec T)) (f : Nat → Option (AV T.U)), fF D (ps ++ qs) f = fF D qs (fF D ps f)
  | [], _, _ => rfl
  | r :: ps, qs, f => fF_app D ps qs _
theorem hF_none {D : Nat → Bool} {e : Nat} : ∀ {rs : List (Rec T)} {f : Nat → Ent T.U}, (∀ r ∈ rs, D r.d.j = true → ¬ acts r e) → hF D rs f e = f e
  | [], f, _ => rfl
  | r :: rs, f, h => by
    unfold hF
    rw [hF_none (rs := rs) fun r' hr' => h r' (List.mem_cons_of_mem _ hr')]
    cases hD : D r.d.j with
    | false => rfl
    | true => exact upG_id (h r (List.mem_cons_self ..) hD) _
theorem hF_congr {D D' : Nat → Bool} {e : Nat} : ∀ {rs : List (Rec T)} {f g : Nat → Ent T.U}, f e = g e → (∀ r ∈ rs, acts r e → D r.d.j = D' r.d.j) → hF D rs f e = hF D' rs g e
  | [], f, g, hf, _ => hf
  | r :: rs, f, g, hf, h => by
    unfold hF
    refine hF_congr (rs := rs) ?_ fun r' hr' => h r' (List.mem_cons_of_mem _ hr')
    by_cases hu : acts r e
    · rw [h r (List.mem_cons_self ..) hu]
      cases D' r.d.j
      · exact hf
      · show upG r e (f e) = upG r e (g e); rw [hf]
    · cases D r.d.j <;> cases D' r.d.j <;> simp only [upG_id hu] <;> exact hf
/-- one cell of an entry. -/
theorem hF_sim {D D' : Nat → Bool} {e c : Nat} : ∀ {rs : List (Rec T)} {f g : Nat → Ent T.U}, simE c (f e) (g e) → (∀ r ∈ rs, acts r e → D r.d.j = D' r.d.j ∨ ∃ c' v, r.loc = some (e, c', some v) ∧ c' ≠ c) → simE c (hF D rs f e) (hF D' rs g e)
  | [], f, g, hf, _ => hf
  | r :: rs, f, g, hf, h => by
    unfold hF
    refine hF_sim (rs := rs) ?_ fun r' hr' => h r' (List.mem_cons_of_mem _ hr')
    by_cases hu : acts r e
    · have same : simE c (upG r e (f e)) (upG r e (g e)) := by
        unfold upG
        split
        · split
          · exact hf.both _ _
          · exact hf
        · cases hx : upR r e with
          | some x => exact .inl rfl
          | none => exact hf
      rcases h r (List.mem_cons_self ..) hu with h1 | ⟨c', v, h2, h3⟩
      · rw [h1]
        cases D' r.d.j with
        | false => exact hf
        | true => exact same
      · have up : ∀ x, upG r e x = setE c' v x := fun x => by unfold upG; rw [h2]; simp only [if_true]
        cases D r.d.j <;> cases D' r.d.j
        · exact hf
        · show simE c (f e) (upG r e (g e)); rw [up]; exact (hf.symm.left h3 v).symm
        · show simE c (upG r e (f e)) (g e); rw [up]; exact hf.left h3 v
        · exact same
    · cases D r.d.j <;> cases D' r.d.j <;> simp only [upG_id hu] <;> exact hf
/-- a cell that is stored ahead, of those that store into others. -/
theorem hF_comm {D : Nat → Bool} {e c : Nat} {v : AV T.U} : ∀ {rs : List (Rec T)} {f g : Nat → Ent T.U}, f e = setE c v (g e) → (∀ r ∈ rs, D r.d.j = true → acts r e → ∃ c' v', r.loc = some (e, c', some v') ∧ c ≠ c') → hF D rs f e = setE c v (hF D rs g e)
  | [], f, g, hf, _ => hf
  | r :: rs, f, g, hf, h => by
    unfold hF
    refine hF_comm (rs := rs) ?_ fun r' hr' => h r' (List.mem_cons_of_mem _ hr')
    cases hD : D r.d.j with
    | false => exact hf
    | true =>
      show upG r e (f e) = setE c v (upG r e (g e))
      by_cases hu : acts r e
      · obtain ⟨c', v', h2, h3⟩ := h r (List.mem_cons_self ..) hD hu
        unfold upG
        rw [h2]
        simp only [if_true]
        rw [hf, setE_comm h3]
      · rw [upG_id hu, upG_id hu]; exact hf
theorem fF_none {D : Nat → Bool} {t : Nat} : ∀ {rs : List (Rec T)} {f : Nat → Option (AV T.U)}, (∀ r ∈ rs, r.o.dst ≠ some t) → fF D rs f t = f t
  | [], f, _ => rfl
  | r :: rs, f, h => by
    unfold fF
    rw [fF_none (rs := rs) fun r' hr' => h r' (List.mem_cons_of_mem _ hr')]
    have := h r (List.mem_cons_self ..)
    cases hd : r.o.dst with
    | none => rfl
    | some d => exact if_neg (fun e => this (by rw [hd, e]))
theorem fF_at {D : Nat → Bool} {t : Nat} : ∀ {rs : List (Rec T)} {f : Nat → Option (AV T.U)} {r : Rec T}, r ∈ rs → r.o.dst = some t → (∀ r' ∈ rs, r'.o.dst = some t → r' = r) → fF D rs f t = (match D r.d.j with | true => some r.a | false => f t)
  | [], f, r, h, _, _ => by cases h
  | q :: rs, f, r, h, hd, hu => by
    unfold fF
    by_cases hin : r ∈ rs
    · rw [fF_at hin hd fun r' hr' => hu r' (List.mem_cons_of_mem _ hr')]
      cases hD : D r.d.j with
      | true => rfl
      | false =>
        by_cases hqt : q.o.dst = some t
        · have e := hu q (List.mem_cons_self ..) hqt
          subst e
          simp only [hqt, if_true, hD]
        · cases hq : q.o.dst with
          | none => rfl
          | some d => exact if_neg (fun e => hqt (by rw [hq, e]))
    · have hq : q = r := by
        rcases List.mem_cons.1 h with h | h
        · exact h.symm
        · exact absurd h hin
      subst hq
      rw [fF_none fun r' hr' hd' => hin (hu r' (List.mem_cons_of_mem _ hr') hd' ▸ hr')]
      simp only [hd, if_true]
/-- of masked entries. -/
theorem maskH_get {l : List Nat} : ∀ {H : List (Ent T.U)} {i e : Nat}, (maskH T l H i)[e]? = (H[e]?).map fun x => if (i + e) ∈ l then x else .gone
  | [], i, e => by simp [maskH]
  | x :: r, i, 0 => by
    simp only [maskH, List.getElem?_cons_zero, Option.map_some, Nat.add_zero]
    cases hm : memN i l with
    | true => rw [if_pos (memN_iff.1 hm)]
    | false => rw [if_neg (fun h => by rw [memN_iff.2 h] at hm; cases hm)]
  | x :: r, i, e + 1 => by
    simp only [maskH, List.getElem?_cons_succ]
    rw [maskH_get (H := r), show i + 1 + e = i + (e + 1) by omega]
theorem maskH_len {l : List Nat} : ∀ {H : List (Ent T.U)} {i : Nat}, (maskH T l H i).length = H.length
  | [], i => rfl
  | x :: r, i => by simp [maskH, maskH_len (H := r)]
theorem mergeH_get {l : List Nat} : ∀ {H H1 : List (Ent T.U)} {i e : Nat}, H.length ≤ H1.length → (mergeH T l H H1 i)[e]? = if e < H.length then (if (i + e) ∈ l then H1[e]? else H[e]?) else H1[e]?
  | [], H1, i, e, _ => by simp [mergeH]
  | x :: r, [], i, e, h => by simp at h
  | x :: r, y :: s, i, 0, h => by
    simp only [mergeH, List.getElem?_cons_zero, Nat.add_zero, List.length_cons, Nat.zero_lt_succ, if_true]
    cases hm : memN i l with
    | true => rw [if_pos (memN_iff.1 hm)]
    | false => rw [if_neg (fun h => by rw [memN_iff.2 h] at hm; cases hm)]
  | x :: r, y :: s, i, e + 1, h => by
    simp only [mergeH, List.getElem?_cons_succ, List.length_cons]
    rw [mergeH_get (H := r) (H1 := s) (by simpa using h), show i + 1 + e = i + (e + 1) by omega]
    simp only [Nat.add_lt_add_iff_right]
theorem mergeH_len {l : List Nat} : ∀ {H H1 : List (Ent T.U)} {i : Nat}, H.length ≤ H1.length → (mergeH T l H H1 i).length = H1.length
  | [], H1, i, _ => rfl
  | x :: r, [], i, h => by simp at h
  | x :: r, y :: s, i, h => by simp [mergeH, mergeH_len (H := r) (H1 := s) (by simpa using h)]
theorem keepA_get2 {F : AF T} {i : Nat} {a : AV T.U} : ∀ {l : List Nat}, (keepA T F l).get T i = some a → i ∈ l ∧ F.get T i = some a
  | [], h => by simp [keepA, AF.get] at h
  | j :: r, h => by
    unfold keepA at h
    split at h
    · rename_i u hu
      simp only [AF.get] at h
      split at h
      · rename_i hb; have := Nat.eq_of_beq_eq_true hb; subst this; rw [hu]; exact ⟨List.mem_cons_self .., h⟩
      · obtain ⟨h1, h2⟩ := keepA_get2 h; exact ⟨List.mem_cons_of_mem _ h1, h2⟩
    · obtain ⟨h1, h2⟩ := keepA_get2 h; exact ⟨List.mem_cons_of_mem _ h1, h2⟩
end
section
variable {T : Tab} (P : Program) (C : Ctx T) (ops : Array Oper) (n B : Nat) (F0 : AF T) (H0 : List (Ent T.U))
def OkId (B : Nat) (ps : List (Rec T)) (ops : Array Oper) (r : Rec T) (i : Nat) : Prop := i < B ∨ (r.d.nb ≤ i ∧ i < r.d.ne) ∨ ∃ r' ∈ ps, r'.d.nb ≤ i ∧ i < r'.d.ne ∧ Tp ops r.d.j r'.d.j
/-- what may be exchanged. -/
structure ChkR (r r' : Rec T) : Prop where
  tch : ∀ e ∈ r.d.tch, r'.d.wrE e = false
  wr : ∀ e ∈ r.d.wr, e ∉ r'.d.tch
  l1 : ∀ k c v, r'.loc = some (k, c, some v) → k ∉ r.d.tch
  l2 : ∀ k c s, r'.loc = some (k, c, s) → k ∉ r.d.wr
  l3 : ∀ k c s, r.loc = some (k, c, s) → r'.d.wrE k = false
  l4 : ∀ k c v, r.loc = some (k, c, some v) → k ∉ r'.d.tch
  l5 : ∀ k c s c' s', r.loc = some (k, c, s) → r'.loc = some (k, c', s') → s.isSome = true ∨ s'.isSome = true → c' ≠ c
/-- an operation on one cell. -/
structure LocOk (ps : List (Rec T)) (r : Rec T) (k c : Nat) (sv : Option (AV T.U)) : Prop where
  skip : r.skip = false
  ns : notSelect r.o = true
  pre : presA r.F r.o = true
  lt : k < r.d.nb
  ne : r.d.ne = r.d.nb
  tch : r.d.tch = []
  wr : r.d.wr = []
  fr : ∀ t a, r.F.get T t = some a → t ∈ opTmps r.o ∧ fF allD ps (F0.get T) t = some a
  step : ∀ (F' : AF T) (H' : List (Ent T.U)) (f : Ent T.U), (∀ t a, r.F.get T t = some a → F'.get T t = some a) → H'[k]? = some f → simE c f (hF allD ps (base H0) k) → stepF P C r.o ⟨F', H'⟩ some (fun _ _ => none) = some ⟨updA T F' r.o.dst r.a, putE k c sv f H'⟩
  chk : ∀ r' ∈ ps, Tp ops r.d.j r'.d.j ∨ ChkR r r'
  ids : ∀ i ∈ r.a.ids, OkId B ps ops r i
  vids : ∀ v, sv = some v → ∀ i ∈ v.ids, OkId B ps ops r i
structure TakeOk (ps : List (Rec T)) (r : Rec T) : Prop where
  ns : notSelect r.o = true
  pre : presA r.F r.o = true
  step : ∃ Fz, stepF P C r.o ⟨r.F, r.Hm⟩ some (fun _ _ => none) = some ⟨updA T Fz r.o.dst r.a, r.H1⟩
  keeps : Keeps T r.d.wr r.Hm r.H1
  hlen : r.Hm.length = r.d.nb
  hm : ∀ e, e < r.d.nb → r.Hm[e]? = some (if e ∈ r.d.tch then hF allD ps (base H0) e else .gone)
  live : ∀ e ∈ r.d.tch, e < r.d.nb ∧ (hF allD ps (base H0) e).live = true
  ne : r.H1.length = r.d.ne
  fr : ∀ t a, r.F.get T t = some a → t ∈ opTmps r.o ∧ fF allD ps (F0.get T) t = some a
  fid : ∀ t a, r.F.get T t = some a → ∀ i ∈ a.ids, i < r.d.nb
  eids : ∀ f ∈ r.Hm, ∀ i ∈ f.cellIds, i < r.d.nb
  chk : ∀ r' ∈ ps, Tp ops r.d.j r'.d.j ∨ ChkR r r'
  ids : ∀ i ∈ r.a.ids, OkId B ps ops r i
  ep : epIn T r.d.tch r.d.nb H0 r.a = true
  cids : ∀ f ∈ r.H1, ∀ i ∈ f.cellIds, OkId B ps ops r i
structure RecOk (ps : List (Rec T)) (r : Rec T) : Prop where
  idx : r.d.j = ps.length
  op : ops[r.d.j]? = some r.o
  dst : okDst n r.o.dst = true
  le : B ≤ r.d.nb ∧ r.d.nb ≤ r.d.ne
  mono : ∀ r' ∈ ps, r'.d.ne ≤ r.d.nb
  skip : r.skip = true → r.a = .raw undef ∧ r.loc = none
  dskip : r.dead = true → r.skip = true
  take : r.skip = false → r.loc = none → TakeOk P C ops B F0 H0 ps r
  lok : ∀ k c sv, r.loc = some (k, c, sv) → LocOk P C ops B F0 H0 ps r k c sv
  dloc : r.d.loc = r.loc.map fun p => (p.1, p.2.1, p.2.2.isSome)
  guard : r.dead = false → match r.o.guard with
    | none => r.skip = false
    | some (g, b) => ∃ rg ∈ ps, rg.d.j = g ∧ (∃ d, rg.o.dst = some d) ∧ (r.skip = false → rg.a = cB T b) ∧ (r.skip = true → rg.a = cB T (!b) ∨ ∃ u, rg.a = .raw (.tuple u))
/-- An operation that panicked: what it saw, what it told and left. -/
structure PanI (ps : List (Rec T)) (j0 : Nat) (a : AV T.U) (core : List (Ent T.U)) : Prop where
  out : ∃ (r0 : Rec T) (tch : List Nat) (F : AF T) (Hm Hp : List (Ent T.U)) (wr : List Nat), ps[j0]? = some r0 ∧ r0.dead = true ∧
    (match r0.o.guard with | none => True | some (g, b) => ∃ rg ∈ ps.take j0, rg.d.j = g ∧ (∃ d, rg.o.dst = some d) ∧ rg.a = cB T b) ∧
    notSelect r0.o = true ∧ presA F r0.o = true ∧ stepF P C r0.o ⟨F, Hm⟩ (fun _ => none) (fun a st => some (a, st.H)) = some (a, Hp) ∧ Keeps T wr Hm Hp ∧
    Hm.length = r0.d.nb ∧ (∀ e, e < r0.d.nb → Hm[e]? = some (if e ∈ tch then hF allD (ps.take j0) (base H0) e else .gone)) ∧
    (∀ e ∈ tch, e < r0.d.nb ∧ (hF allD (ps.take j0) (base H0) e).live = true) ∧ Hp.length = r0.d.ne ∧
    (∀ t a, F.get T t = some a → t ∈ opTmps r0.o ∧ fF allD (ps.take j0) (F0.get T) t = some a) ∧ (∀ t a, F.get T t = some a → ∀ i ∈ a.ids, i < r0.d.nb) ∧ (∀ f ∈ Hm, ∀ i ∈ f.cellIds, i < r0.d.nb) ∧
    (∀ r' ∈ ps.take j0, Tp ops j0 r'.d.j ∨ ((∀ e ∈ tch, r'.d.wrE e = false) ∧ ∀ k c v, r'.loc = some (k, c, some v) → k ∉ tch)) ∧
    (∀ e, e < B → core[e]? = some (if e ∈ tch then (Hp[e]?).getD .gone else hF allD (ps.take j0) (base H0) e)) ∧ core.length = B
  deads : ∀ q ∈ ps, q.dead = true → q.d.j = j0 ∨ Tp ops q.d.j j0
  wrs : ∀ q ∈ ps, q.skip = false → (q.d.wr ≠ [] ∨ ∃ k c v, q.loc = some (k, c, some v)) → Tp ops j0 q.d.j
  coreIds : ∀ f ∈ core, ∀ i ∈ f.cellIds, i < B
  aids : a.ids = []
/-- a panic that came ahead. -/
def PzOk {R : Type} (Fp : AF T) (Kp : AV T.U → St T → Option R) (ps : List (Rec T)) : Option (Nat × Option R) → Prop
  | none => ∀ q ∈ ps, q.dead = false
  | some (j0, kf) => ∃ a core, PanI P C ops B F0 H0 ps j0 a core ∧ kf = Kp a ⟨Fp, core⟩
def TrOk (rs : List (Rec T)) : Prop := ∀ j r, rs[j]? = some r → RecOk P C ops n B F0 H0 (rs.take j) r
structure AccD (ps : List (Rec T)) (FF : AF T) (Hc : List (Ent T.U)) (recs : List DR) : Prop where
  tr : TrOk P C ops n B F0 H0 ps
  ff : ∀ t, FF.get T t = fF allD ps (F0.get T) t
  hc : ∀ e, e < Hc.length → Hc[e]? = some (hF allD ps (base H0) e)
  le : B ≤ Hc.length
  mono : ∀ r ∈ ps, r.d.ne ≤ Hc.length
  recs : recs = ps.map (·.d)
end
section
variable {T : Tab} {P : Program} {C : Ctx T} {ops : Array Oper} {n B : Nat} {F0 : AF T} {H0 : List (Ent T.U)}
structure OkD (ops : Array Oper) (n : Nat) : Prop where
  dep : depOkD ops ops.size = true
  uniq : ∀ i j d, i < ops.size → j < ops.size → dstOf ops i = some d → dstOf ops j = some d → i = j
  back : edgesBack ops = true
  guards : guardsBack ops ops.size = true
  dst : ∀ i d, i < ops.size → dstOf ops i = some d → d < n
theorem okD_spec (h : okD ops n = true) : OkD ops n := by
  unfold okD at h
  simp only [Bool.and_eq_true] at h
  obtain ⟨h1, h2, h3, h4, h5⟩ := h
  refine ⟨h1, distinct_uniq h2, h3, h4, fun i d hi hd => ?_⟩
  rw [List.all_eq_true] at h5
  simpa [Nat.blt_eq] using h5 d (by unfold dsts; rw [List.mem_filterMap]; exact ⟨i, List.mem_range.2 hi, hd⟩)
theorem OkD.reads (h : OkD ops n) {i : Nat} {o : Oper} (ho : ops[i]? = some o) {t : Nat} (ht : t ∈ opTmps o ++ guardTmp ops o) : (∃ j, (dpreds ops i).contains j = true ∧ dstOf ops j = some t) ∨ ∀ j, j < ops.size → dstOf ops j = some t → Tp ops j i := by
  have hi := (Array.getElem?_eq_some_iff.1 ho).1
  have hd := h.dep
  unfold depOkD at hd
  rw [List.all_eq_true] at hd
  have := hd i (List.mem_range.2 hi)
  rw [ho] at this
  simp only [Bool.and_eq_true, List.all_eq_true] at this
  have := this.2 t ht
  simp only [Bool.or_eq_true] at this
  rcases this with h1 | h1
  · rw [List.any_eq_true] at h1
    obtain ⟨j, hj, h2⟩ := h1
    simp only [Bool.and_eq_true, beq_iff_eq] at h2
    exact .inl ⟨j, by simpa using hj, h2.2⟩
  · rw [List.all_eq_true] at h1
    refine .inr fun j hj hd => ?_
    have h2 := h1 j (List.mem_range.2 hj)
    rw [Bool.or_eq_true] at h2
    rcases h2 with h2 | h2
    · rw [hd] at h2; simp at h2
    · exact tp_of_clo _ _ _ (List.contains_iff_mem.1 h2)
theorem OkD.guard (h : OkD ops n) {i : Nat} {o : Oper} (ho : ops[i]? = some o) {g : Nat} {b : Bool} (hg : o.guard = some (g, b)) : g < i := by
  have hi := (Array.getElem?_eq_some_iff.1 ho).1
  have hd := h.guards
  unfold guardsBack at hd
  rw [List.all_eq_true] at hd
  have := hd i (List.mem_range.2 hi)
  rw [ho] at this
  simp only [hg] at this
  simpa [Nat.blt_eq] using this
theorem dstOf_of {i : Nat} {o : Oper} (ho : ops[i]? = some o) : dstOf ops i = o.dst := by simp [dstOf, ho]
/-- Two notes of one slot are one. -/
theorem TrOk.uniq (hk : OkD ops n) {rs : List (Rec T)} (h : TrOk P C ops n B F0 H0 rs) {r r' : Rec T} (hr : r ∈ rs) (hr' : r' ∈ rs) {t : Nat} (hd : r.o.dst = some t) (hd' : r'.o.dst = some t) : r = r' := by
  obtain ⟨i, hi⟩ := List.mem_iff_getElem?.1 hr
  obtain ⟨j, hj⟩ := List.mem_iff_getElem?.1 hr'
  have a := h i r hi; have b := h j r' hj
  have e1 : r.d.j = i := by rw [a.idx, List.length_take, Nat.min_eq_left (Nat.le_of_lt (List.getElem?_eq_some_iff.1 hi).1)]
  have e2 : r'.d.j = j := by rw [b.idx, List.length_take, Nat.min_eq_left (Nat.le_of_lt (List.getElem?_eq_some_iff.1 hj).1)]
  have := hk.uniq r.d.j r'.d.j t (Array.getElem?_eq_some_iff.1 a.op).1 (Array.getElem?_eq_some_iff.1 b.op).1 (by rw [dstOf_of a.op]; exact hd) (by rw [dstOf_of b.op]; exact hd')
  rw [e1, e2] at this; subst this
  rw [hi] at hj; exact Option.some.inj hj
theorem TrOk.snoc {ps : List (Rec T)} {r : Rec T} (h : TrOk P C ops n B F0 H0 ps) (hr : RecOk P C ops n B F0 H0 ps r) : TrOk P C ops n B F0 H0 (ps ++ [r]) := by
  intro j q hq
  rcases Nat.lt_trichotomy j ps.length with hj | hj | hj
  · rw [List.getElem?_append_left hj] at hq
    rw [List.take_append_of_le_length (by omega)]
    exact h j q hq
  · subst hj
    rw [List.getElem?_append_right (Nat.le_refl _), Nat.sub_self] at hq
    simp at hq; subst hq
    rw [List.take_left]
    exact hr
  · rw [List.getElem?_eq_none (by simp; omega)] at hq; cases hq
theorem TrOk.dlocs {ps : List (Rec T)} (h : TrOk P C ops n B F0 H0 ps) : ∀ r ∈ ps, r.d.loc = r.loc.map fun p => (p.1, p.2.1, p.2.2.isSome) := fun r hr => by
  obtain ⟨j, hj⟩ := List.mem_iff_getElem?.1 hr
  exact (h j r hj).dloc
theorem AccD.skip {ps : List (Rec T)} {FF : AF T} {Hc : List (Ent T.U)} {recs : List DR} (h : AccD P C ops n B F0 H0 ps FF Hc recs) {o : Oper} (ho : ops[ps.length]? = some o) (hd : okDst n o.dst = true) (hg : match o.guard with
    | none => False
    | some (g, b) => ∃ rg ∈ ps, rg.d.j = g ∧ (∃ d, rg.o.dst = some d) ∧ (rg.a = cB T (!b) ∨ ∃ u, rg.a = .raw (.tuple u))) :
    ∃ r, AccD P C ops n B F0 H0 (ps ++ [r]) (updA T FF o.dst (.raw undef)) Hc (recs ++ [⟨ps.length, Hc.length, Hc.length, [], [], none⟩]) ∧ r.dead = false ∧ r.skip = true := by
  let r : Rec T := ⟨o, ⟨ps.length, Hc.length, Hc.length, [], [], none⟩, true, [], [], .raw undef, [], false, none⟩
  have hup : ∀ e, ¬ acts r e := fun e h => h.elim (fun h => h rfl) fun ⟨_, _, h⟩ => by cases h
  refine ⟨r, ?_, rfl, rfl⟩
  refine ⟨h.tr.snoc ⟨rfl, ho, hd, ⟨h.le, Nat.le_refl _⟩, h.mono, fun _ => ⟨rfl, rfl⟩, fun h => (by cases h), fun h => (by cases h), fun _ _ _ h => (by cases h), rfl, fun _ => ?_⟩, ?_, fun e he => ?_, h.le, fun q hq => ?_, by rw [h.recs]; simp [r]⟩
  · show match o.guard with | none => _ | some (g, b) => _
    split at hg
    · exact hg.elim
    · rename_i g b hgg
      obtain ⟨rg, a1, a2, a3, a4⟩ := hg
      exact ⟨rg, a1, a2, a3, fun h => (by cases h), fun _ => a4⟩
  · intro t
    rw [fF_app]
    show (updA T FF o.dst (.raw undef)).get T t = (match o.dst with | some d => (fun t => if t = d then (match allD r.d.j with | true => some r.a | false => fF allD ps (F0.get T) t) else fF allD ps (F0.get T) t) | none => fF allD ps (F0.get T)) t
    cases hdst : o.dst with
    | none => exact h.ff t
    | some d =>
      simp only [updA, AF.get, allD]
      cases hb : Nat.beq d t with
      | true => have := Nat.eq_of_beq_eq_true hb; subst this; simp [r]
      | false => rw [if_neg (fun e => by subst e; simp at hb)]; exact h.ff t
  · rw [h.hc e he, hF_app, hF_none (rs := [r]) fun r' hr' _ => by simp at hr'; subst hr'; exact hup e]
  · rcases List.mem_append.1 hq with hq | hq
    · exact h.mono q hq
    · simp at hq; subst hq; exact Nat.le_refl _
theorem ltAll_spec {m : Nat} {l : List Nat} (h : ltAll m l = true) : ∀ i ∈ l, i < m := by
  intro i hi
  unfold ltAll at h
  rw [List.all_eq_true] at h
  simpa [Nat.blt_eq] using h i hi
theorem idsF_get2 {F : AF T} {t : Nat} {a : AV T.U} (h : F.get T t = some a) : ∀ i ∈ a.ids, i ∈ idsF T F := idsF_get h
theorem idOk_spec {nb ne j : Nat} {recs : List DR} {ps : List (Rec T)} (hr : recs = ps.map (·.d)) {i : Nat} (h : idOk B nb ne ((cloN ops ops.size).getD j []) recs i = true) :
    i < B ∨ (nb ≤ i ∧ i < ne) ∨ ∃ r' ∈ ps, r'.d.nb ≤ i ∧ i < r'.d.ne ∧ Tp ops j r'.d.j := by
  unfold idOk at h
  simp only [Bool.or_eq_true, Bool.and_eq_true, Nat.blt_eq] at h
  rcases h with h | ⟨h1, h2⟩ | h
  · exact .inl h
  · exact .inr (.inl ⟨Nat.le_of_ble_eq_true h1, h2⟩)
  · rw [List.any_eq_true] at h
    obtain ⟨d, hd, h⟩ := h
    simp only [Bool.and_eq_true, Nat.blt_eq] at h
    rw [hr] at hd
    obtain ⟨r', hr', rfl⟩ := List.mem_map.1 hd
    exact .inr (.inr ⟨r', hr', Nat.le_of_ble_eq_true h.1, h.2.1, tp_of_clo ops.size _ _ (memN_iff.1 h.2.2)⟩)
theorem chkD_spec {j : Nat} {recs : List DR} {ps : List (Rec T)} (hr : recs = ps.map (·.d)) (hdl : ∀ r' ∈ ps, r'.d.loc = r'.loc.map fun p => (p.1, p.2.1, p.2.2.isSome)) {tch wr : List Nat} {lc : Option (Nat × Nat × Bool)} (h : chkD ((cloN ops ops.size).getD j []) recs tch wr lc = true) :
    ∀ r' ∈ ps, Tp ops j r'.d.j ∨ ((∀ e ∈ tch, r'.d.wrE e = false) ∧ (∀ e ∈ wr, e ∉ r'.d.tch) ∧ (∀ k c v, r'.loc = some (k, c, some v) → k ∉ tch) ∧ (∀ k c s, r'.loc = some (k, c, s) → k ∉ wr) ∧ (∀ k c st, lc = some (k, c, st) → r'.d.wrE k = false ∧ (st = true → k ∉ r'.d.tch) ∧ ∀ c' s', r'.loc = some (k, c', s') → st = true ∨ s'.isSome = true → c' ≠ c)) := by
  intro r' hr'
  unfold chkD at h
  rw [List.all_eq_true] at h
  have := h r'.d (by rw [hr]; exact List.mem_map_of_mem hr')
  have hdl := hdl r' hr'
  generalize r'.d = d at this hdl ⊢
  generalize r'.loc = ll at hdl ⊢
  rw [Bool.or_eq_true] at this
  rcases this with h | h
  · exact .inl (tp_of_clo ops.size _ _ (memN_iff.1 h))
  · rw [Bool.and_eq_true, Bool.and_eq_true, List.all_eq_true, List.all_eq_true] at h
    obtain ⟨⟨h1, h2⟩, h3⟩ := h
    have nm : ∀ {e : Nat} {l : List Nat}, (!memN e l) = true → e ∉ l := fun {e l} h hm => by rw [memN_iff.2 hm] at h; cases h
    unfold locC at h3
    rw [Bool.and_eq_true] at h3
    obtain ⟨h3, h4⟩ := h3
    refine .inr ⟨fun e he => by have := h1 e he; simpa using this, fun e he => nm (h2 e he), fun k c v hl => ?_, fun k c sv hl => ?_, fun k c st hl => ?_⟩
    · subst hl
      rw [hdl] at h3
      simp only [Option.map_some, Option.isSome_some, Bool.not_true, Bool.false_or, Bool.and_eq_true] at h3
      exact nm h3.1
    · subst hl
      rw [hdl] at h3
      simp only [Option.map_some, Bool.and_eq_true] at h3
      exact nm h3.2
    · subst hl
      simp only [Bool.and_eq_true] at h4
      obtain ⟨g1, g2, g3⟩ := h4
      refine ⟨by simpa using g1, fun hst => ?_, fun c' s' hl hor => ?_⟩
      · subst hst
        simp only [Bool.not_true, Bool.false_or] at g2
        exact nm g2
      · subst hl
        rw [hdl] at g3
        simp only [Option.map_some, Nat.beq_refl, Bool.not_true, Bool.false_or] at g3
        intro e
        subst e
        rw [Nat.beq_refl] at g3
        rcases hor with h | h <;> rw [h] at g3 <;> simp at g3
theorem AccD.take {ps : List (Rec T)} {FF : AF T} {Hc : List (Ent T.U)} {recs : List DR} (h : AccD P C ops n B F0 H0 ps FF Hc recs) {o : Oper} (ho : ops[ps.length]? = some o) (hg : match o.guard with
    | none => True
    | some (g, b) => ∃ rg ∈ ps, rg.d.j = g ∧ (∃ d, rg.o.dst = some d) ∧ rg.a = cB T b) {tch : List Nat} (htch : ∀ e ∈ tch, ∃ f, Hc[e]? = some f ∧ f.live = true) {F : AF T} (hFk : F = keepA T FF (opTmps o))
    (hdst : okDst n o.dst = true) (hns : notSelect o = true) (hpre : presA F o = true) (hlt : ltAll Hc.length (idsF T F) = true) (hlc : ((maskH T tch Hc 0).all fun e => ltAll Hc.length e.cellIds) = true)
    {a : AV T.U} {H1 : List (Ent T.U)} {Fz : AF T} (hstep : stepF P C o ⟨F, maskH T tch Hc 0⟩ some (fun _ _ => none) = some ⟨updA T Fz o.dst a, H1⟩) (hk : Keeps T (wrF C o ⟨F, maskH T tch Hc 0⟩) (maskH T tch Hc 0) H1)
    (hchk : chkD ((cloN ops ops.size).getD ps.length []) recs tch (wrF C o ⟨F, maskH T tch Hc 0⟩) none = true) (hid : ((dstA T (updA T Fz o.dst a) o.dst).ids.all (idOk B Hc.length H1.length ((cloN ops ops.size).getD ps.length []) recs)) = true)
    (hep : epIn T tch Hc.length H0 (dstA T (updA T Fz o.dst a) o.dst) = true) (hcid : (H1.all fun e => e.cellIds.all (idOk B Hc.length H1.length ((cloN ops ops.size).getD ps.length []) recs)) = true) :
    ∃ r, AccD P C ops n B F0 H0 (ps ++ [r]) (updA T FF o.dst (dstA T (updA T Fz o.dst a) o.dst)) (mergeH T tch Hc H1 0) (recs ++ [⟨ps.length, Hc.length, H1.length, tch, wrF C o ⟨F, maskH T tch Hc 0⟩, none⟩]) ∧ r.dead = false ∧ r.d.j = ps.length ∧ r.d.wr = wrF C o ⟨F, maskH T tch Hc 0⟩ ∧ r.loc = none := by
  let r : Rec T := ⟨o, ⟨ps.length, Hc.length, H1.length, tch, wrF C o ⟨F, maskH T tch Hc 0⟩, none⟩, false, F, maskH T tch Hc 0, dstA T (updA T Fz o.dst a) o.dst, H1, false, none⟩
  have hnb : Hc.length ≤ H1.length := by have := hk.len; rwa [maskH_len] at this
  have hda : updA T Fz o.dst (dstA T (updA T Fz o.dst a) o.dst) = updA T Fz o.dst a := by
    cases hd : o.dst with
    | none => rfl
    | some d => simp only [updA, dstA, AF.get, Nat.beq_refl]
  have hmask : ∀ e, e < Hc.length → (maskH T tch Hc 0)[e]? = some (if e ∈ tch then hF allD ps (base H0) e else .gone) := by
    intro e he
    rw [maskH_get, h.hc e he, Nat.zero_add]; rfl
  have htk : TakeOk P C ops B F0 H0 ps r := by
    refine ⟨hns, hpre, ?_, hk, maskH_len, hmask, fun e he => ?_, rfl, fun t a ha => ?_, fun t a ha i hi => ltAll_spec hlt i (idsF_get2 ha i hi), fun f hf i hi => ?_, fun r' hr' => (chkD_spec h.recs h.tr.dlocs hchk r' hr').imp id fun ⟨q1, q2, q3, q4, _⟩ => ⟨q1, q2, q3, q4, fun _ _ _ hl => (by cases hl), fun _ _ _ hl => (by cases hl), fun _ _ _ _ _ hl => (by cases hl)⟩, fun i hi => ?_, hep, fun f hf i hi => ?_⟩
    · refine ⟨Fz, ?_⟩
      show stepF P C o ⟨F, maskH T tch Hc 0⟩ some (fun _ _ => none) = some ⟨updA T Fz o.dst (dstA T (updA T Fz o.dst a) o.dst), H1⟩
      rw [hda]; exact hstep
    · obtain ⟨f, h1, h2⟩ := htch e he
      have hlt := (List.getElem?_eq_some_iff.1 h1).1
      rw [h.hc e hlt] at h1
      simp only [Option.some.injEq] at h1
      exact ⟨hlt, by rw [h1]; exact h2⟩
    · have ha : (keepA T FF (opTmps o)).get T t = some a := by rw [← hFk]; exact ha
      obtain ⟨h1, h2⟩ := keepA_get2 ha
      exact ⟨h1, by rw [← h.ff]; exact h2⟩
    · rw [List.all_eq_true] at hlc
      exact ltAll_spec (hlc f hf) i hi
    · rw [List.all_eq_true] at hid
      exact idOk_spec h.recs (hid i hi)
    · rw [List.all_eq_true] at hcid
      have := hcid f hf
      rw [List.all_eq_true] at this
      exact idOk_spec h.recs (this i hi)
  refine ⟨r, ?_, rfl, rfl, rfl, rfl⟩
  refine ⟨h.tr.snoc ⟨rfl, ho, hdst, ⟨h.le, hnb⟩, h.mono, fun h => (by cases h), fun h => (by cases h), fun _ _ => htk, fun _ _ _ h => (by cases h), rfl, fun _ => ?_⟩, ?_, fun e he => ?_, by rw [mergeH_len hnb]; exact Nat.le_trans h.le hnb, fun q hq => ?_, by rw [h.recs]; simp [r]⟩
  · show match o.guard with | none => _ | some (g, b) => _
    split at hg
    · rfl
    · obtain ⟨rg, a1, a2, a3, a4⟩ := hg
      exact ⟨rg, a1, a2, a3, fun _ => a4, fun h => (by cases h)⟩
  · intro t
    rw [fF_app]
    show (updA T FF o.dst r.a).get T t = (match o.dst with | some d => (fun t => if t = d then (match allD r.d.j with | true => some r.a | false => fF allD ps (F0.get T) t) else fF allD ps (F0.get T) t) | none => fF allD ps (F0.get T)) t
    cases hdst : o.dst with
    | none => exact h.ff t
    | some d =>
      simp only [updA, AF.get, allD]
      cases hb : Nat.beq d t with
      | true => have := Nat.eq_of_beq_eq_true hb; subst this; simp
      | false => rw [if_neg (fun e => by subst e; simp at hb)]; exact h.ff t
  · rw [mergeH_len hnb] at he
    rw [mergeH_get hnb, Nat.zero_add, hF_app]
    show _ = some ((upR r e).getD (hF allD ps (base H0) e))
    have hr : upR r e = if e < Hc.length then (if e ∈ tch ∧ e ∈ wrF C o ⟨F, maskH T tch Hc 0⟩ then H1[e]? else none) else H1[e]? := rfl
    rw [hr]
    have hH1 : H1[e]? = some H1[e] := List.getElem?_eq_getElem he
    by_cases hel : e < Hc.length
    · rw [if_pos hel, if_pos hel]
      by_cases ht : e ∈ tch
      · rw [if_pos ht]
        by_cases hw : e ∈ wrF C o ⟨F, maskH T tch Hc 0⟩
        · rw [if_pos ⟨ht, hw⟩, hH1]; rfl
        · rw [if_neg (fun q => hw q.2), hk.same e (by rw [maskH_len]; exact hel) hw, hmask e hel, if_pos ht]; rfl
      · rw [if_neg ht, if_neg (fun q => ht q.1), h.hc e hel]; rfl
    · rw [if_neg hel, if_neg hel, hH1]; rfl
  · rw [mergeH_len hnb]
    rcases List.mem_append.1 hq with hq | hq
    · exact Nat.le_trans (h.mono q hq) hnb
    · simp at hq; subst hq; exact Nat.le_refl _
/-- An operation on one cell. -/
theorem AccD.takeL {ps : List (Rec T)} {FF : AF T} {Hc : List (Ent T.U)} {recs : List DR} (h : AccD P C ops n B F0 H0 ps FF Hc recs) {o : Oper} (ho : ops[ps.length]? = some o) (hg : match o.guard with
    | none => True
    | some (g, b) => ∃ rg ∈ ps, rg.d.j = g ∧ (∃ d, rg.o.dst = some d) ∧ rg.a = cB T b) {tch : List Nat} {F : AF T} (hFk : F = keepA T FF (opTmps o))
    (hdst : okDst n o.dst = true) (hns : notSelect o = true) (hpre : presA F o = true) {k c : Nat} {sv : Option (AV T.U)} (hl : locP P o F (maskH T tch Hc 0) = some (k, c, sv))
    {a : AV T.U} {H1 : List (Ent T.U)} {Fz : AF T} (hstep : stepF P C o ⟨F, maskH T tch Hc 0⟩ some (fun _ _ => none) = some ⟨updA T Fz o.dst a, H1⟩)
    (hchk : chkD ((cloN ops ops.size).getD ps.length []) recs [] [] (some (k, c, sv.isSome)) = true) (hid : ((dstA T (updA T Fz o.dst a) o.dst).ids.all (idOk B Hc.length Hc.length ((cloN ops ops.size).getD ps.length []) recs)) = true)
    (hvid : ((match sv with | some v => v.ids | none => []).all (idOk B Hc.length Hc.length ((cloN ops ops.size).getD ps.length []) recs)) = true) :
    ∃ r, AccD P C ops n B F0 H0 (ps ++ [r]) (updA T FF o.dst (dstA T (updA T Fz o.dst a) o.dst)) (putE k c sv (Hc.getD k .gone) Hc) (recs ++ [⟨ps.length, Hc.length, Hc.length, [], [], some (k, c, sv.isSome)⟩]) ∧ r.dead = false ∧ r.d.wr = [] ∧ r.loc = some (k, c, sv) := by
  let r : Rec T := ⟨o, ⟨ps.length, Hc.length, Hc.length, [], [], some (k, c, sv.isSome)⟩, false, F, [], dstA T (updA T Fz o.dst a) o.dst, [], false, some (k, c, sv)⟩
  obtain ⟨x, hx, hxl, _, hst⟩ := loc_step hl hstep
  have hda : ∀ G : AF T, updA T G o.dst (dstA T (updA T Fz o.dst a) o.dst) = updA T G o.dst a := fun G => by
    cases hd : o.dst with
    | none => rfl
    | some d => simp only [updA, dstA, AF.get, Nat.beq_refl]
  have hk : k < Hc.length := by have := (List.getElem?_eq_some_iff.1 hx).1; rwa [maskH_len] at this
  have hxe : x = hF allD ps (base H0) k := by
    rw [maskH_get, h.hc k hk, Nat.zero_add] at hx
    simp only [Option.map_some, Option.some.injEq] at hx
    split at hx
    · exact hx.symm
    · subst hx; cases hxl
  have hlok : LocOk P C ops B F0 H0 ps r k c sv := by
    refine ⟨rfl, hns, hpre, hk, rfl, rfl, rfl, fun t a ha => ?_, fun F' H' f hF hf hsim => ?_, fun r' hr' => ?_, fun i hi => ?_, fun v hv i hi => ?_⟩
    · have ha : (keepA T FF (opTmps o)).get T t = some a := by rw [← hFk]; exact ha
      obtain ⟨h1, h2⟩ := keepA_get2 ha
      exact ⟨h1, by rw [← h.ff]; exact h2⟩
    · rw [← hxe] at hsim
      have := hst F' H' f hF hf hsim
      show stepF P C o ⟨F', H'⟩ some (fun _ _ => none) = some ⟨updA T F' o.dst (dstA T (updA T Fz o.dst a) o.dst), putE k c sv f H'⟩
      rw [hda]; exact this
    · rcases chkD_spec h.recs h.tr.dlocs hchk r' hr' with q | ⟨q1, q2, q3, q4, q5⟩
      · exact .inl q
      obtain ⟨u1, u2, u3⟩ := q5 k c sv.isSome rfl
      refine .inr ⟨fun _ hm => (by cases hm), fun _ hm => (by cases hm), fun _ _ _ _ hm => (by cases hm), fun _ _ _ _ hm => (by cases hm), fun k0 c0 s0 hl => ?_, fun k0 c0 v0 hl => ?_, fun k0 c0 s0 c' s' hl hl' hor => ?_⟩
      · have hl : some (k, c, sv) = some (k0, c0, s0) := hl
        simp only [Option.some.injEq, Prod.mk.injEq] at hl
        obtain ⟨rfl, rfl, rfl⟩ := hl; exact u1
      · have hl : some (k, c, sv) = some (k0, c0, some v0) := hl
        simp only [Option.some.injEq, Prod.mk.injEq] at hl
        obtain ⟨rfl, rfl, rfl⟩ := hl; exact u2 rfl
      · have hl : some (k, c, sv) = some (k0, c0, s0) := hl
        simp only [Option.some.injEq, Prod.mk.injEq] at hl
        obtain ⟨rfl, rfl, rfl⟩ := hl; exact u3 c' s' hl' hor
    · rw [List.all_eq_true] at hid
      exact idOk_spec h.recs (hid i hi)
    · subst hv
      rw [List.all_eq_true] at hvid
      exact idOk_spec h.recs (hvid i hi)
  have hlen : (putE k c sv (Hc.getD k .gone) Hc).length = Hc.length := by cases sv <;> simp [putE]
  refine ⟨r, ?_, rfl, rfl, rfl⟩
  refine ⟨h.tr.snoc ⟨rfl, ho, hdst, ⟨h.le, Nat.le_refl _⟩, h.mono, fun h => (by cases h), fun h => (by cases h), fun _ h => (by cases h), fun k0 c0 s0 hl => ?_, rfl, fun _ => ?_⟩, ?_, fun e he => ?_, by rw [hlen]; exact h.le, fun q hq => ?_, by rw [h.recs]; simp [r]⟩
  · have hl : some (k, c, sv) = some (k0, c0, s0) := hl
    simp only [Option.some.injEq, Prod.mk.injEq] at hl
    obtain ⟨rfl, rfl, rfl⟩ := hl; exact hlok
  · show match o.guard with | none => _ | some (g, b) => _
    split at hg
    · rfl
    · obtain ⟨rg, a1, a2, a3, a4⟩ := hg
      exact ⟨rg, a1, a2, a3, fun _ => a4, fun h => (by cases h)⟩
  · intro t
    rw [fF_app]
    show (updA T FF o.dst r.a).get T t = (match o.dst with | some d => (fun t => if t = d then (match allD r.d.j with | true => some r.a | false => fF allD ps (F0.get T) t) else fF allD ps (F0.get T) t) | none => fF allD ps (F0.get T)) t
    cases hdst : o.dst with
    | none => exact h.ff t
    | some d =>
      simp only [updA, AF.get, allD]
      cases hb : Nat.beq d t with
      | true => have := Nat.eq_of_beq_eq_true hb; subst this; simp
      | false => rw [if_neg (fun e => by subst e; simp at hb)]; exact h.ff t
  · rw [hlen] at he
    rw [hF_app]
    show _ = some (upG r e (hF allD ps (base H0) e))
    have hge := h.hc e he
    cases sv with
    | none => exact hge
    | some v =>
      show (Hc.set k (setE c v (Hc.getD k .gone)))[e]? = some (if e = k then setE c v (hF allD ps (base H0) e) else hF allD ps (base H0) e)
      by_cases hek : e = k
      · subst hek
        rw [List.getElem?_set_self hk, if_pos rfl, List.getD_eq_getElem?_getD, hge]; rfl
      · rw [List.getElem?_set_ne (Ne.symm hek), if_neg hek]; exact hge
  · rw [hlen]
    rcases List.mem_append.1 hq with hq | hq
    · exact h.mono q hq
    · simp at hq; subst hq; exact Nat.le_refl _
/-- An operation that is not done: it panicked, or waits for one that did. -/
theorem AccD.dies {ps : List (Rec T)} {FF : AF T} {Hc : List (Ent T.U)} {recs : List DR} (hB : H0.length = B) (h : AccD P C ops n B F0 H0 ps FF Hc recs) {o : Oper} (ho : ops[ps.length]? = some o) (hd : okDst n o.dst = true) (m : Nat) (hm : Hc.length ≤ m) :
    AccD P C ops n B F0 H0 (ps ++ [⟨o, ⟨ps.length, Hc.length, m, [], [], none⟩, true, [], [], .raw undef, [], true, none⟩]) (updA T FF o.dst (.raw undef)) (Hc ++ List.replicate (m - Hc.length) .gone) (recs ++ [⟨ps.length, Hc.length, m, [], [], none⟩]) := by
  let r : Rec T := ⟨o, ⟨ps.length, Hc.length, m, [], [], none⟩, true, [], [], .raw undef, [], true, none⟩
  have hup : ∀ e, ¬ acts r e := fun e h => h.elim (fun h => h rfl) fun ⟨_, _, h⟩ => by cases h
  have hlen : (Hc ++ List.replicate (m - Hc.length) Ent.gone).length = m := by simp; omega
  refine ⟨h.tr.snoc ⟨rfl, ho, hd, ⟨h.le, hm⟩, h.mono, fun _ => ⟨rfl, rfl⟩, fun _ => rfl, fun h => (by cases h), fun _ _ _ h => (by cases h), rfl, fun h => (by cases h)⟩, ?_, fun e he => ?_, by rw [hlen]; exact Nat.le_trans h.le hm, fun q hq => ?_, by rw [h.recs]; simp⟩
  · intro t
    rw [fF_app]
    show (updA T FF o.dst (.raw undef)).get T t = (match o.dst with | some d => (fun t => if t = d then (match allD r.d.j with | true => some r.a | false => fF allD ps (F0.get T) t) else fF allD ps (F0.get T) t) | none => fF allD ps (F0.get T)) t
    cases hdst : o.dst with
    | none => exact h.ff t
    | some d =>
      simp only [updA, AF.get, allD]
      cases hb : Nat.beq d t with
      | true => have := Nat.eq_of_beq_eq_true hb; subst this; simp [r]
      | false => rw [if_neg (fun e => by subst e; simp at hb)]; exact h.ff t
  · rw [hF_app, hF_none (rs := [_]) fun r' hr' _ => by simp only [List.mem_singleton] at hr'; subst hr'; exact hup e]
    by_cases hel : e < Hc.length
    · rw [List.getElem?_append_left hel]; exact h.hc e hel
    · rw [List.getElem?_append_right (by omega)]
      rw [hlen] at he
      rw [List.getElem?_replicate, if_pos (by omega), hF_none fun q hq _ => ?_]
      · have := h.le
        unfold base; rw [List.getElem?_eq_none (by omega)]; rfl
      · intro hu
        obtain ⟨k, hk⟩ := List.mem_iff_getElem?.1 hq
        have hqk := h.tr k q hk
        have hmo := h.mono q hq
        have hle := hqk.le
        rcases hu with hu | ⟨c, v, hl⟩
        · unfold upR at hu
          split at hu
          · exact hu rfl
          · rename_i hs
            split at hu
            · exact hu rfl
            · rename_i hl
              have hne := (hqk.take hs hl).ne
              split at hu
              · omega
              · exact hu (List.getElem?_eq_none (by omega))
        · have := (hqk.lok _ _ _ hl).lt; omega
  · rw [hlen]
    rcases List.mem_append.1 hq with hq | hq
    · exact Nat.le_trans (h.mono q hq) hm
    · simp at hq; subst hq; exact Nat.le_refl _
theorem PanI.snoc {ps : List (Rec T)} {j0 : Nat} {a : AV T.U} {core : List (Ent T.U)} (h : PanI P C ops B F0 H0 ps j0 a core) {q : Rec T} (hd : q.dead = true → q.d.j = j0 ∨ Tp ops q.d.j j0) (hw : q.skip = false → (q.d.wr ≠ [] ∨ ∃ k c v, q.loc = some (k, c, some v)) → Tp ops j0 q.d.j) : PanI P C ops B F0 H0 (ps ++ [q]) j0 a core := by
  obtain ⟨⟨r0, tch, F, Hm, Hp, wr, h1, h2, h3⟩, h4, h5, h6, h7⟩ := h
  have hlt := (List.getElem?_eq_some_iff.1 h1).1
  have ht : (ps ++ [q]).take j0 = ps.take j0 := List.take_append_of_le_length (by omega)
  refine ⟨⟨r0, tch, F, Hm, Hp, wr, by rw [List.getElem?_append_left hlt]; exact h1, h2, by rw [ht]; exact h3⟩, fun p hp hpd => ?_, fun p hp hs hpw => ?_, h6, h7⟩
  · rcases List.mem_append.1 hp with hp | hp
    · exact h4 p hp hpd
    · simp at hp; subst hp; exact hd hpd
  · rcases List.mem_append.1 hp with hp | hp
    · exact h5 p hp hs hpw
    · simp at hp; subst hp; exact hw hs hpw
theorem PzOk.snoc {R : Type} {Fp : AF T} {Kp : AV T.U → St T → Option R} {ps : List (Rec T)} {pz : Option (Nat × Option R)} (h : PzOk P C ops B F0 H0 Fp Kp ps pz) {q : Rec T} (h1 : q.dead = false) (h2 : pz ≠ none → q.skip = false → q.d.wr = [] ∧ ∀ k c v, q.loc ≠ some (k, c, some v)) : PzOk P C ops B F0 H0 Fp Kp (ps ++ [q]) pz := by
  cases pz with
  | none =>
    intro p hp
    rcases List.mem_append.1 hp with hp | hp
    · exact h p hp
    · simp at hp; subst hp; exact h1
  | some x =>
    obtain ⟨j0, kf⟩ := x
    obtain ⟨a, core, h3, h4⟩ := h
    exact ⟨a, core, h3.snoc (fun hd => by rw [h1] at hd; cases hd) fun hs hw => (hw.elim (fun hw => absurd (h2 (by simp) hs).1 hw) fun ⟨k, c, v, hl⟩ => absurd hl ((h2 (by simp) hs).2 k c v)), h4⟩
/-- a slot is seen otherwise. -/
theorem AccD.again {ps : List (Rec T)} {FF : AF T} {Hc : List (Ent T.U)} {recs : List DR} (h : AccD P C ops n B F0 H0 ps FF Hc recs) {d : Nat} {a : AV T.U} (hd : FF.get T d = some a) : AccD P C ops n B F0 H0 ps ((d, a) :: FF) Hc recs :=
  ⟨h.tr, fun t => by
    simp only [AF.get]
    cases hb : Nat.beq d t with
    | true => have := Nat.eq_of_beq_eq_true hb; subst this; rw [← h.ff, hd]
    | false => exact h.ff t, h.hc, h.le, h.mono, h.recs⟩
/-- What is drawn out of an evaluation. -/
theorem regP_tr (hB : H0.length = B) (hk : OkD ops n) (hE : EnvOk T P C.E) {R : Type} {r : R} {Fp : AF T} {pm : Bool} {Kp : AV T.U → St T → Option R} {K : St T → Option R} : ∀ (rest : List Oper) (ps : List (Rec T)) (pz : Option (Nat × Option R)) (FF : AF T) (Hc : List (Ent T.U)) (recs : List DR), ops.toList.drop ps.length = rest → AccD P C ops n B F0 H0 ps FF Hc recs → PzOk P C ops B F0 H0 Fp Kp ps pz → regP T P C ops n B H0 Fp pm Kp K rest ps.length pz FF Hc recs = some r →
    ∃ rs pz' FF' Hc' recs', AccD P C ops n B F0 H0 rs FF' Hc' recs' ∧ PzOk P C ops B F0 H0 Fp Kp rs pz' ∧ rs.length = ops.size ∧ (match pz' with | none => K ⟨FF', Hc'⟩ | some (_, kf) => kf) = some r
  | [], ps, pz, FF, Hc, recs, hr, h, hz, hp => by
    have : ops.size ≤ ps.length := by simpa using List.drop_eq_nil_iff.1 hr
    have hle : ps.length ≤ ops.size := by
      rcases Nat.eq_zero_or_pos ps.length with h0 | h0
      · omega
      · have hlt : ps.length - 1 < ps.length := by omega
        have hg := List.getElem?_eq_getElem hlt
        have hrk := h.tr _ _ hg
        have h1 := (Array.getElem?_eq_some_iff.1 hrk.op).1
        rw [hrk.idx, List.length_take] at h1
        omega
    exact ⟨ps, pz, FF, Hc, recs, h, hz, by omega, hp⟩
  | o :: rest, ps, pz, FF, Hc, recs, hr, h, hz, hp => by
    have hlt : ps.length < ops.size := by
      apply Classical.byContradiction; intro hn
      rw [List.drop_eq_nil_of_le (by simpa using hn)] at hr; cases hr
    have ho : ops[ps.length]? = some o := by
      have := List.drop_eq_getElem_cons (l := ops.toList) (i := ps.length) (by simpa using hlt)
      rw [hr] at this
      rw [Array.getElem?_eq_getElem hlt]
      have h1 := (List.cons.inj this).1
      simpa using h1.symm
    have hr' : ops.toList.drop (ps.length + 1) = rest := by
      have := List.drop_eq_getElem_cons (l := ops.toList) (i := ps.length) (by simpa using hlt)
      rw [hr] at this
      exact (List.cons.inj this).2.symm
    have go : ∀ (q : Rec T) (pz : Option (Nat × Option R)) (FF' : AF T) (Hc' : List (Ent T.U)) (recs' : List DR), AccD P C ops n B F0 H0 (ps ++ [q]) FF' Hc' recs' → PzOk P C ops B F0 H0 Fp Kp (ps ++ [q]) pz → regP T P C ops n B H0 Fp pm Kp K rest (ps.length + 1) pz FF' Hc' recs' = some r →
        ∃ rs pz' FF' Hc' recs', AccD P C ops n B F0 H0 rs FF' Hc' recs' ∧ PzOk P C ops B F0 H0 Fp Kp rs pz' ∧ rs.length = ops.size ∧ (match pz' with | none => K ⟨FF', Hc'⟩ | some (_, kf) => kf) = some r := by
      intro q pz FF' Hc' recs' ha hz hq
      have hl : (ps ++ [q]).length = ps.length + 1 := by simp
      rw [← hl] at hq
      exact regP_tr hB hk hE rest (ps ++ [q]) pz FF' Hc' recs' (by rw [hl]; exact hr') ha hz hq
    let Gr : Option (Nat × Option R) → AF T → List (Ent T.U) → List DR → Option R := fun pz FF Hc recs => regP T P C ops n B H0 Fp pm Kp K rest (ps.length + 1) pz FF Hc recs
    have htake : ∀ FF, AccD P C ops n B F0 H0 ps FF Hc recs → (match o.guard with
        | none => True
        | some (g, b) => ∃ rg ∈ ps, rg.d.j = g ∧ (∃ d, rg.o.dst = some d) ∧ rg.a = cB T b) →
        takeP T P C ops n B H0 Fp pm Kp o ps.length pz FF Hc recs Gr = some r → ∃ rs pz' FF' Hc' recs', AccD P C ops n B F0 H0 rs FF' Hc' recs' ∧ PzOk P C ops B F0 H0 Fp Kp rs pz' ∧ rs.length = ops.size ∧ (match pz' with | none => K ⟨FF', Hc'⟩ | some (_, kf) => kf) = some r := by
      intro FF h hg hp
      unfold takeP at hp
      simp only at hp
      generalize hF : keepA T FF (opTmps o) = F at hp
      generalize htch : liveOnly T Hc (touchA T o F Hc ++ frzIds C o F Hc) = tch at hp
      have htl : ∀ e ∈ tch, ∃ f, Hc[e]? = some f ∧ f.live = true := fun e he => by
        rw [← htch] at he
        have := (List.mem_filter.1 he).2
        split at this
        · rename_i f hf; exact ⟨f, hf, this⟩
        · cases this
      split at hp <;> try (cases hp; done)
      rename_i hb
      simp only [Bool.and_eq_true] at hb
      split at hp
      · rename_i k c sv hl
        rcases stepF_det hE hp with ⟨Fz, a, H1, h1, h2, h3⟩ | ⟨a, st', h1, h2, h3⟩
        · dsimp only at h1
          split at h1 <;> try (cases h1; done)
          rename_i hc
          simp only [Bool.and_eq_true] at hc
          obtain ⟨hlater, hc1, hc2, hc3⟩ := hc
          obtain ⟨q, hq, hqd, hqw, hql⟩ := h.takeL ho hg (tch := tch) hF.symm hb.1 hb.2.1 hb.2.2.1 hl (h3 _ _) hc1 hc2 hc3
          refine go q _ _ _ _ hq (hz.snoc hqd fun hne _ => ⟨hqw, fun k' c' v' hl' => ?_⟩) h1
          rw [hql] at hl'
          simp only [Option.some.injEq, Prod.mk.injEq] at hl'
          obtain ⟨_, _, rfl⟩ := hl'
          cases pz with
          | none => exact absurd rfl hne
          | some x => simp [laterP] at hlater
        · cases h1
      rcases stepF_det hE hp with ⟨Fz, a, H1, h1, h2, h3⟩ | ⟨a, st', h1, h2, h3⟩
      · dsimp only at h1
        split at h1 <;> try (cases h1; done)
        rename_i hc
        rw [Bool.and_eq_true] at hc
        obtain ⟨hlater, hc⟩ := hc
        simp only [Bool.and_eq_true] at hc
        obtain ⟨q, hq, hqd, hqj, hqw, hql⟩ := h.take ho hg (tch := tch) htl hF.symm hb.1 hb.2.1 hb.2.2.1 hb.2.2.2.1 hb.2.2.2.2 (h3 _ _) h2 hc.1 hc.2.1.1 hc.2.1.2 hc.2.2
        refine go q _ _ _ _ hq (hz.snoc hqd fun hne _ => ⟨?_, fun k c v hl => by rw [hql] at hl; cases hl⟩) h1
        rw [hqw]
        cases pz with
        | none => exact absurd rfl hne
        | some x => simpa [laterP] using hlater
      · split at h1 <;> try (cases h1; done)
        rename_i hc
        rw [Bool.and_eq_true] at hc
        obtain ⟨hfst, hok⟩ := hc
        have hpz : pz = none := by cases pz with | none => rfl | some x => cases hfst
        subst hpz
        unfold okPan at hok
        simp only [Bool.and_eq_true] at hok
        obtain ⟨k1, k2, k3, k4⟩ := hok
        have hnb : Hc.length ≤ st'.H.length := by have := h2.len; rwa [maskH_len] at this
        have hd := h.dies hB ho hb.1 st'.H.length hnb
        refine go _ (some (ps.length, Kp a ⟨Fp, corePan T B tch Hc st'.H⟩)) _ _ _ hd ⟨a, corePan T B tch Hc st'.H, ⟨⟨⟨o, ⟨ps.length, Hc.length, st'.H.length, [], [], none⟩, true, [], [], .raw undef, [], true, none⟩, tch, F, maskH T tch Hc 0, st'.H, _, ?_, rfl, ?_, hb.2.1, hb.2.2.1, h3 _ _, h2, maskH_len, fun e he => ?_, fun e he => ?_, rfl, fun t x hx => ?_, fun t x hx i hi => ltAll_spec hb.2.2.2.1 i (idsF_get2 hx i hi), fun f hf i hi => ?_, ?_, fun e he => ?_, ?_⟩, fun q hq hqd => ?_, fun q hq hs hw => ?_, fun f hf i hi => ?_, by simpa using k2⟩, rfl⟩ h1
        · rw [List.getElem?_append_right (Nat.le_refl _)]; simp
        · show match o.guard with | none => True | some (g, b) => _
          split
          · trivial
          · rename_i g b hgd
            rw [hgd] at hg
            simp only at hg
            rw [List.take_append_of_le_length (Nat.le_refl _), List.take_length]
            exact hg
        · rw [List.take_append_of_le_length (Nat.le_refl _), List.take_length, maskH_get, h.hc e he, Nat.zero_add]; rfl
        · obtain ⟨f, g1, g2⟩ := htl e he
          have hlt := (List.getElem?_eq_some_iff.1 g1).1
          rw [h.hc e hlt] at g1
          simp only [Option.some.injEq] at g1
          rw [List.take_append_of_le_length (Nat.le_refl _), List.take_length]
          exact ⟨hlt, by rw [g1]; exact g2⟩
        · rw [← hF] at hx
          obtain ⟨g1, g2⟩ := keepA_get2 hx
          rw [List.take_append_of_le_length (Nat.le_refl _), List.take_length]
          exact ⟨g1, by rw [← h.ff]; exact g2⟩
        · have := List.all_eq_true.1 hb.2.2.2.2 f hf
          exact ltAll_spec this i hi
        · rw [List.take_append_of_le_length (Nat.le_refl _), List.take_length]
          intro r' hr'
          rcases chkD_spec h.recs h.tr.dlocs k1 r' hr' with g1 | ⟨g1, _, g3, _⟩
          · exact .inl g1
          · exact .inr ⟨g1, g3⟩
        · rw [List.take_append_of_le_length (Nat.le_refl _), List.take_length]
          have hle := h.le
          unfold corePan
          rw [List.getElem?_take, if_pos he, mergeH_get hnb, if_pos (by omega), Nat.zero_add]
          split
          · have hlt : e < st'.H.length := by omega
            rw [List.getElem?_eq_getElem hlt]; rfl
          · rw [h.hc e (by omega)]
        · have hle := h.le
          unfold corePan
          rw [List.length_take, mergeH_len hnb]; omega
        · rcases List.mem_append.1 hq with hq | hq
          · rw [hz q hq] at hqd; cases hqd
          · simp at hq; subst hq; exact .inl rfl
        · rcases List.mem_append.1 hq with hq | hq
          · have hm := List.all_eq_true.1 k3 q.d (by rw [h.recs]; exact List.mem_map.2 ⟨q, hq, rfl⟩)
            rw [Bool.or_eq_true] at hm
            rcases hm with hm | hm
            · exact tp_of_clo ops.size _ _ (memN_iff.1 hm)
            · rw [Bool.and_eq_true] at hm
              rcases hw with hw | ⟨k0, c0, v0, hl0⟩
              · exact absurd (by simpa using hm.1) hw
              · have h1 := h.tr.dlocs q hq
                rw [hl0] at h1
                have h2 : q.d.isSt = true := by unfold DR.isSt; rw [h1]; rfl
                rw [h2] at hm; simp at hm
          · simp at hq; subst hq; cases hs
        · have := List.all_eq_true.1 k4 f hf
          exact ltAll_spec this i hi
    have hpass : ∀ FF, AccD P C ops n B F0 H0 ps FF Hc recs → (match o.guard with
        | none => False
        | some (g, b) => ∃ rg ∈ ps, rg.d.j = g ∧ (∃ d, rg.o.dst = some d) ∧ (rg.a = cB T (!b) ∨ ∃ u, rg.a = .raw (.tuple u))) →
        passP T n o ps.length pz FF Hc recs Gr = some r → ∃ rs pz' FF' Hc' recs', AccD P C ops n B F0 H0 rs FF' Hc' recs' ∧ PzOk P C ops B F0 H0 Fp Kp rs pz' ∧ rs.length = ops.size ∧ (match pz' with | none => K ⟨FF', Hc'⟩ | some (_, kf) => kf) = some r := by
      intro FF h hg hp
      unfold passP at hp
      split at hp <;> try (cases hp; done)
      rename_i hd
      obtain ⟨q, hq, hqd, hqs⟩ := h.skip ho hd hg
      exact go q _ _ _ _ hq (hz.snoc hqd fun _ hs => (by rw [hqs] at hs; cases hs)) hp
    unfold regP at hp
    simp only at hp
    split at hp
    · rename_i hdead
      have hp : passP T n o ps.length pz FF Hc recs Gr = some r := hp
      unfold passP at hp
      split at hp <;> try (cases hp; done)
      rename_i hd
      have hq := h.dies hB ho hd Hc.length (Nat.le_refl _)
      rw [Nat.sub_self, List.replicate_zero, List.append_nil] at hq
      cases pz with
      | none => cases hdead
      | some x =>
        obtain ⟨j0, kf⟩ := x
        obtain ⟨a, core, g1, g2⟩ := hz
        exact go _ (some (j0, kf)) _ _ _ hq ⟨a, core, g1.snoc (fun _ => .inr (tp_of_clo ops.size _ _ (memN_iff.1 hdead))) fun hs => (by cases hs), g2⟩ hp
    split at hp
    · rename_i hg
      exact htake FF h (by rw [hg]; trivial) hp
    · rename_i g b hg
      split at hp
      · cases hp
      · rename_i d hdg
        have hgl := hk.guard ho hg
        have hgg : ps[g]? = some ps[g] := List.getElem?_eq_getElem hgl
        have hrk := h.tr g _ hgg
        have hidx : ps[g].d.j = g := by rw [hrk.idx, List.length_take]; omega
        have hop := hrk.op
        rw [hidx] at hop
        have hdst : ps[g].o.dst = some d := by
          unfold dstAt at hdg
          rw [hop] at hdg; exact hdg
        have hff : FF.get T d = some ps[g].a := by
          rw [h.ff, fF_at (List.mem_of_getElem? hgg) hdst fun r' hr' hd' => h.tr.uniq hk hr' (List.mem_of_getElem? hgg) hd' hdst]
          rfl
        have hmem := List.mem_of_getElem? hgg
        split at hp
        · rename_i c hc
          have ha : ps[g].a = cB T c := by rw [hff] at hc; exact Option.some.inj hc
          rcases forkB_cases hp with ⟨hct, hp⟩ | ⟨hct, hp⟩
          · have hct : c = true := hct
            subst hct
            have h' := h.again (d := d) (a := cB T true) (by rw [hff, ha])
            cases b with
            | true => exact htake _ h' (by rw [hg]; exact ⟨_, hmem, hidx, ⟨d, hdst⟩, ha⟩) hp
            | false => exact hpass _ h' (by rw [hg]; exact ⟨_, hmem, hidx, ⟨d, hdst⟩, .inl ha⟩) hp
          · have hct : c = false := hct
            subst hct
            have h' := h.again (d := d) (a := cB T false) (by rw [hff, ha])
            cases b with
            | true => exact hpass _ h' (by rw [hg]; exact ⟨_, hmem, hidx, ⟨d, hdst⟩, .inl ha⟩) hp
            | false => exact htake _ h' (by rw [hg]; exact ⟨_, hmem, hidx, ⟨d, hdst⟩, ha⟩) hp
        · rename_i u hc
          have ha : ps[g].a = .raw (.tuple u) := by rw [hff] at hc; exact Option.some.inj hc
          exact hpass FF h (by rw [hg]; exact ⟨_, hmem, hidx, ⟨d, hdst⟩, .inr ⟨u, ha⟩⟩) hp
        · cases hp
end
end Go.X
