/- Texts put together. -/
import Derived.Test.YtjjlcenmifcaeaaX9
/- Rows of structs whose lists lie in blocks of their own: one of them is opened, closed again. Nothing here is about one program. -/
namespace Go.X
open Go.RowKit Go.V

def memN (i : Nat) : List Nat → Bool | [] => false | j :: r => match Nat.beq j i with | true => true | false => memN i r
def addN (l : List Nat) : List Nat → List Nat | [] => l | i :: r => match memN i l with | true => addN l r | false => addN (l ++ [i]) r
def idxN (i : Nat) : List Nat → Nat | [] => 0 | j :: r => match Nat.beq j i with | true => 0 | false => idxN i r + 1
def nodupN : List Nat → Bool | [] => true | i :: r => !memN i r && nodupN r
theorem memN_iff {i : Nat} : ∀ {l : List Nat}, memN i l = true ↔ i ∈ l
  | [] => by simp [memN]
  | j :: r => by
    unfold memN
    split
    · rename_i h; have := Nat.eq_of_beq_eq_true h; subst this; simp
    · rename_i h
      have hne : j ≠ i := fun e => by subst e; simp at h
      rw [memN_iff]; simp [Ne.symm hne]
theorem idxN_spec {i : Nat} : ∀ {l : List Nat}, i ∈ l → idxN i l < l.length ∧ l[idxN i l]? = some i
  | [], h => by cases h
  | j :: r, h => by
    unfold idxN
    split
    · rename_i hb; have := Nat.eq_of_beq_eq_true hb; subst this; simp
    · rename_i hb
      have hne : j ≠ i := fun e => by subst e; simp at hb
      have hr : i ∈ r := by
        rcases List.mem_cons.1 h with rfl | h
        · exact absurd rfl hne
        · exact h
      obtain ⟨h1, h2⟩ := idxN_spec hr
      exact ⟨by simpa using h1, by rw [List.getElem?_cons_succ]; exact h2⟩
theorem nodupN_inj : ∀ {l : List Nat}, nodupN l = true → ∀ {a b x : Nat}, l[a]? = some x → l[b]? = some x → a = b
  | [], _, a, b, x, ha, _ => by simp at ha
  | i :: r, h, a, b, x, ha, hb => by
    unfold nodupN at h
    simp only [Bool.and_eq_true, Bool.not_eq_true'] at h
    have hni : i ∉ r := fun hm => by have := memN_iff.2 hm; rw [h.1] at this; cases this
    cases a with
    | zero =>
      cases b with
      | zero => rfl
      | succ b =>
        simp at ha hb; subst ha
        exact absurd (List.mem_of_getElem? hb) hni
    | succ a =>
      cases b with
      | zero =>
        simp at ha hb; subst hb
        exact absurd (List.mem_of_getElem? ha) hni
      | succ b =>
        simp at ha hb
        rw [nodupN_inj h.2 ha hb]

section
variable (T : Tab)
def goneL (H : List (Ent T.U)) : List Nat → List (Ent T.U)
  | [] => H
  | i :: r => goneL (H.set i .gone) r
def lstI {U : Nat → Type} : Cell U → Option ((t : Ty) × List (den U t)) | ⟨.list t, ys⟩ => some ⟨t, ys⟩ | _ => none
def lstE {U : Nat → Type} (e : TypeId) (c : Cell U) : Option ((t : Ty) × List (den U t)) := match Nat.beq e 0 with | true => none | false => lstI c
/-- an element's cells, opened: its lists become rows, numbered from n on. -/
def openCs : List TypeId → List (Cell T.U) → Nat → List (AV T.U) × List (Ent T.U)
  | _, [], _ => ([], [])
  | fe, c :: r, n => match lstE (fe.headD 0) c with
    | some ⟨t, ys⟩ => (.own n :: (openCs fe.tail r (n + 1)).1, .row (fe.headD 0) t ys :: (openCs fe.tail r (n + 1)).2)
    | none => (.cell c :: (openCs fe.tail r n).1, (openCs fe.tail r n).2)
def elD (d : Nat) (xs : List (T.U d)) (a : Nat) : List (Cell T.U) := T.cells d (xs.getD a (T.d d))
def openH (H : List (Ent T.U)) (k : Nat) (e : TypeId) (d : Nat) (fe : List TypeId) (xs : List (T.U d)) (a : Nat) : List (Ent T.U) :=
  H.set k (.drow e d fe xs (some (a, (openCs T fe (elD T d xs a) H.length).1))) ++ (openCs T fe (elD T d xs a) H.length).2
def closeC (H : List (Ent T.U)) (t : Ty) (e : TypeId) (a : AV T.U) : Option (Cell T.U × List Nat) :=
  match a with
  | .own j => match H[j]?, t with
    | some (.row e' t' ys), .list t0 => (match Nat.beq e' e && !(Nat.beq e 0) with | true => if t' = t0 then some (⟨.list t', ys⟩, [j]) else none | false => none)
    | _, _ => none
  | .raw (.slice none 0 0) => match t with | .list t0 => some (⟨.list t0, []⟩, []) | _ => none
  | .cell c => match c.t.scal || Nat.beq e 0 with | true => some (c, []) | false => none
  | _ => none
def closeCs (H : List (Ent T.U)) : List Ty → List TypeId → List (AV T.U) → Option (List (Cell T.U) × List Nat)
  | [], _, [] => some ([], [])
  | t :: ts, fe, a :: as => match closeC T H t (fe.headD 0) a, closeCs H ts fe.tail as with | some (c, l), some (cs, ls) => some (c :: cs, l ++ ls) | _, _ => none
  | _, _, _ => none
/-- what is open is closed, where that can be. -/
def closeAt (H : List (Ent T.U)) (k : Nat) : List (Ent T.U) :=
  match H[k]? with
  | some (.drow e d fe xs (some (a, cs))) => match closeCs T H (tysOf T d) fe cs with
    | some (l, ids) => match nodupN ids, T.pack d l with
      | true, some y => goneL T (H.set k (.drow e d fe (xs.set a y) none)) ids
      | _, _ => H
    | none => H
  | some (.pmap kd be d m (some (x, j))) => match H[j]? with
    | some (.blk be' cs) => match Nat.beq be' be && !(Nat.beq j k), T.rb d cs with
      | true, some y => (H.set k (.pmap kd be d (tset m x y) none)).set j .gone
      | _, _ => H
    | _ => H
  | _ => H
def closeL : List Nat → List (Ent T.U) → List (Ent T.U)
  | [], H => H
  | k :: r, H => closeL r (closeAt T H k)
end
section
variable {T : Tab} {P : Program} {w w' : World} {S S' : List Nat} {φ φ' : Nat → RA} {w0 : World} {S0 : Ow} {F : AF T} {H : List (Ent T.U)} {F' : PF}
theorem set_gone {i j : Nat} {f : Ent T.U} (h : (H.set i .gone)[j]? = some f) (hl : f.live = true) : j ≠ i ∧ H[j]? = some f := by
  by_cases hji : j = i
  · subst hji
    have hlt := (List.getElem?_eq_some_iff.1 h).1
    rw [List.getElem?_set_self (by simpa using hlt)] at h
    simp only [Option.some.injEq] at h; subst h; cases hl
  · rw [List.getElem?_set_ne (Ne.symm hji)] at h; exact ⟨hji, h⟩
theorem goneL_get : ∀ {ids : List Nat} {H : List (Ent T.U)} {j : Nat} {f : Ent T.U}, (goneL T H ids)[j]? = some f → f.live = true → j ∉ ids ∧ H[j]? = some f
  | [], H, j, f, h, _ => ⟨by simp, h⟩
  | i :: r, H, j, f, h, hl => by
    obtain ⟨h1, h2⟩ := goneL_get (ids := r) h hl
    obtain ⟨h3, h4⟩ := set_gone h2 hl
    exact ⟨by simp [h3, h1], h4⟩
theorem goneL_len : ∀ (ids : List Nat) (H : List (Ent T.U)), (goneL T H ids).length = H.length
  | [], H => rfl
  | i :: r, H => by rw [goneL, goneL_len r]; simp
theorem lstI_some {c : Cell T.U} {p : (t : Ty) × List (den T.U t)} (h : lstI c = some p) : c = ⟨.list p.1, p.2⟩ := by
  obtain ⟨t, x⟩ := c
  cases t <;> first | (cases h; done) | (simp only [lstI, Option.some.injEq] at h; subst h; rfl)
theorem beq0 {e : TypeId} (h : Nat.beq e 0 = false) : e ≠ 0 := fun he => by subst he; cases h
theorem lstE_some {e : TypeId} {c : Cell T.U} {p : (t : Ty) × List (den T.U t)} (h : lstE e c = some p) : Nat.beq e 0 = false ∧ c = ⟨.list p.1, p.2⟩ := by
  unfold lstE at h
  split at h
  · cases h
  · rename_i he; exact ⟨he, lstI_some h⟩
theorem lstE_none {e : TypeId} {c : Cell T.U} (h : lstE e c = none) (v : Value) : (DC T w S e c v → CellR T w S c v) ∧ cblk T e c v = [] := by
  unfold lstE at h
  split at h
  · rename_i he
    have := Nat.eq_of_beq_eq_true he; subst this
    obtain ⟨t, x⟩ := c
    refine ⟨fun hd => ?_, rfl⟩
    cases t <;> first | exact hd.1 rfl | exact hd
  · rename_i he
    obtain ⟨t, x⟩ := c
    refine ⟨fun hd => ?_, ?_⟩
    · cases t <;> first | (cases h; done) | exact hd
    · unfold cblk; rw [he]
      cases t <;> first | (cases h; done) | rfl
theorem getD0 (fe : List TypeId) : fe.getD 0 0 = fe.headD 0 := by cases fe <;> rfl
theorem getDs (fe : List TypeId) (f : Nat) : fe.getD (f + 1) 0 = fe.tail.getD f 0 := by cases fe <;> simp
/-- entries are seen otherwise; nothing is changed. -/
theorem Sim.ghost (h : Sim T w0 S0 ⟨F, H⟩ F' w S φ) {H' : List (Ent T.U)} (hlen : H.length ≤ H'.length) (hs : ∀ i, i < H.length → RSame (φ' i) (φ i))
    (hrow : ∀ (i : Nat) (e : TypeId) (t : Ty) (xs : List (den T.U t)), i < H.length → H'[i]? = some (.row e t xs) → H[i]? = some (.row e t xs))
    (hat : ∀ (i : Nat) (e : Ent T.U), H'[i]? = some e → e.live = true → ∀ a, At (φ' i) a → ∃ j f b, H[j]? = some f ∧ f.live = true ∧ At (φ j) b ∧ b.block = a.block)
    (hent : ∀ (i : Nat) (e : Ent T.U), H'[i]? = some e → EntR T w S φ' i e) (heid : ∀ (i : Nat) (e : Ent T.U), H'[i]? = some e → ∀ j ∈ e.cellIds, j < H'.length)
    (hap : ∀ (i j : Nat) (e e' : Ent T.U), H'[i]? = some e → H'[j]? = some e' → e.live = true → e'.live = true → i ≠ j → ∀ a b, At (φ' i) a → At (φ' j) b → a.block ≠ b.block) : Sim T w0 S0 ⟨F, H'⟩ F' w S φ' := by
  refine ⟨fun i a ha => ?_, fun i a ha => ?_, h.chg, h.own, h.ex, fun i e he hl a ha => ?_, fun k r hk => ?_, hent, heid, hap⟩
  · obtain ⟨v, h1, h2⟩ := h.fr i a ha
    exact ⟨v, h1, h2.phiS fun j hj => hs j ((h.ids i a ha).1 j hj)⟩
  · obtain ⟨h1, h2⟩ := h.ids i a ha
    refine ⟨fun j hj => Nat.lt_of_lt_of_le (h1 j hj) hlen, ?_⟩
    cases a with
    | eptr y sz k c => intro e t xs hx; exact h2 e t xs (hrow y e t xs (h1 y (by simp [AV.ids])) hx)
    | _ => trivial
  · obtain ⟨j, f, b, h1, h2, h3, h4⟩ := hat i e he hl a ha
    rw [← h4]; exact h.lives j f h1 h2 b h3
  · obtain ⟨h1, h2⟩ := h.pins k r hk
    exact ⟨(hs k h2).trans h1, Nat.lt_of_lt_of_le h2 hlen⟩
theorem openCs_len : ∀ (fe : List TypeId) (cs : List (Cell T.U)) (n : Nat), (openCs T fe cs n).1.length = cs.length
  | _, [], _ => by simp [openCs]
  | fe, c :: r, n => by
    unfold openCs
    split <;> simp [openCs_len fe.tail r]
/-- what opened cells stand for: the new rows' places. -/
theorem openCs_spec : ∀ {cs : List (Cell T.U)} {fe : List TypeId} {vs : List Value} (n : Nat), cs.length = vs.length → (∀ f c v, cs[f]? = some c → vs[f]? = some v → DC T w S (fe.getD f 0) c v) →
    ∃ (rs : List RA) (p : Nat → Nat), rs.length = (openCs T fe cs n).2.length ∧ (∀ φ' : Nat → RA, (∀ r ra, rs[r]? = some ra → φ' (n + r) = ra) → VRL T w S φ' (openCs T fe cs n).1 vs) ∧
      (∀ r e, (openCs T fe cs n).2[r]? = some e → ∃ ra, rs[r]? = some ra ∧ e.cellIds = [] ∧ ∀ φ' : Nat → RA, φ' (n + r) = ra → (∀ a, ra.ad = some a → a.block ∈ S) → EntR T w S φ' (n + r) e) ∧
      (∀ r ra, rs[r]? = some ra → ra.xs = [] ∧ ∃ c v, cs[p r]? = some c ∧ vs[p r]? = some v ∧ cblk T (fe.getD (p r) 0) c v = blks ra.ad) ∧ (∀ r r', p r = p r' → r = r') ∧ ∀ i ∈ idsL (openCs T fe cs n).1, n ≤ i ∧ i < n + rs.length
  | [], fe, [], n, _, _ => ⟨[], id, rfl, fun _ _ => by simp [openCs, VRL], fun r e h => by simp [openCs] at h, fun r ra h => by simp at h, fun _ _ h => h, fun i hi => by simp [openCs, idsL] at hi⟩
  | [], _, _ :: _, _, h, _ => by simp at h
  | _ :: _, _, [], _, h, _ => by simp at h
  | c :: r, fe, v :: vs, n, hl, hd => by
    have hd0 : DC T w S (fe.headD 0) c v := by have := hd 0 c v rfl rfl; rwa [getD0] at this
    have hd1 : ∀ f c v, r[f]? = some c → vs[f]? = some v → DC T w S (fe.tail.getD f 0) c v := fun f c' v' h1 h2 => by
      have := hd (f + 1) c' v' (by simpa using h1) (by simpa using h2); rwa [getDs] at this
    have hl' : r.length = vs.length := by simpa using hl
    cases hc : lstE (fe.headD 0) c with
    | none =>
      obtain ⟨rs, p, k1, k2, k3, k4, k5, k6⟩ := openCs_spec (fe := fe.tail) n hl' hd1
      refine ⟨rs, fun r => p r + 1, ?_, fun φ' hφ => ?_, fun r e h => ?_, fun r ra h => ?_, fun r r' h => k5 r r' (Nat.succ.inj h), fun i hi => ?_⟩
      · simp only [openCs, hc]; exact k1
      · simp only [openCs, hc]; exact ⟨(lstE_none hc v).1 hd0, k2 φ' hφ⟩
      · simp only [openCs, hc] at h; exact k3 r e h
      · obtain ⟨q1, c', v', q2, q3, q4⟩ := k4 r ra h
        exact ⟨q1, c', v', by simpa using q2, by simpa using q3, by rw [getDs]; exact q4⟩
      · simp only [openCs, hc, idsL, AV.ids, List.nil_append] at hi; exact k6 i hi
    | some q =>
      obtain ⟨t, ys⟩ := q
      obtain ⟨hez, hce⟩ := lstE_some hc
      simp only at hce
      subst hce
      obtain ⟨B, ad, cap, vals, rfl, o1, o2, o3⟩ := hd0.2 (beq0 hez)
      obtain ⟨rs, p, k1, k2, k3, k4, k5, k6⟩ := openCs_spec (fe := fe.tail) (n + 1) hl' hd1
      refine ⟨⟨ad, List.length (α := den T.U t) ys, cap, []⟩ :: rs, fun r => match r with | 0 => 0 | r + 1 => p r + 1, ?_, fun φ' hφ => ?_, fun r e h => ?_, fun r ra h => ?_, fun r r' h => ?_, fun i hi => ?_⟩
      · simp only [openCs, hc, List.length_cons, k1]
      · simp only [openCs, hc]
        refine ⟨?_, k2 φ' fun r ra h => ?_⟩
        · have := hφ 0 _ rfl
          rw [Nat.add_zero] at this
          rw [VR, this]
        · have := hφ (r + 1) ra (by simpa using h)
          rwa [show n + (r + 1) = n + 1 + r by omega] at this
      · simp only [openCs, hc] at h
        cases r with
        | zero =>
          simp only [List.getElem?_cons_zero, Option.some.injEq] at h; subst h
          refine ⟨_, rfl, rfl, fun φ' hφ hS => ?_⟩
          rw [Nat.add_zero] at hφ ⊢
          refine ⟨B, vals, by rw [hφ]; exact o1, by rw [hφ], o2, o3, fun a ha => hS a (by rw [hφ] at ha; exact ha)⟩
        | succ r =>
          simp at h
          obtain ⟨ra, q1, q2, q3⟩ := k3 r e h
          refine ⟨ra, by simpa using q1, q2, fun φ' hφ hS => ?_⟩
          rw [show n + (r + 1) = n + 1 + r by omega] at hφ ⊢
          exact q3 φ' hφ hS
      · cases r with
        | zero =>
          simp only [List.getElem?_cons_zero, Option.some.injEq] at h; subst h
          exact ⟨rfl, _, _, rfl, rfl, by show cblk T (fe.getD 0 0) _ _ = _; rw [getD0]; unfold cblk; rw [hez]⟩
        | succ r =>
          obtain ⟨q1, c', v', q2, q3, q4⟩ := k4 r ra (by simpa using h)
          exact ⟨q1, c', v', by simpa using q2, by simpa using q3, by show cblk T (fe.getD (p r + 1) 0) _ _ = _; rw [getDs]; exact q4⟩
      · cases r with
        | zero => cases r' with
          | zero => rfl
          | succ r' => simp at h
        | succ r => cases r' with
          | zero => simp at h
          | succ r' => have := k5 r r' (by simpa using h); omega
      · simp only [openCs, hc, idsL, AV.ids, List.cons_append, List.nil_append, List.mem_cons] at hi
        simp only [List.length_cons]
        rcases hi with rfl | hi
        · omega
        · have := k6 i hi; omega
theorem at_range {α β : Type} {f : α → List β} {sz : Nat} (hf : ∀ y, (f y).length = sz) {l : List α} {a : Nat} {x : α} (hx : l[a]? = some x) {q : Nat} (hq : q < sz) : (l.flatMap f)[a * sz + q]? = (f x)[q]? := by
  rw [← flat_at hf hx, List.getElem?_take, if_pos hq, List.getElem?_drop]
/-- an element is opened. -/
theorem Sim.openD (h : Sim T w0 S0 ⟨F, H⟩ F' w S φ) {k : Nat} {e : TypeId} {d : Nat} {fe : List TypeId} {xs : List (T.U d)} {a : Nat} (hk : H[k]? = some (.drow e d fe xs none)) (ha : a < xs.length) :
    ∃ φ', (∀ i, i < H.length → RSame (φ' i) (φ i)) ∧ Sim T w0 S0 ⟨F, openH T H k e d fe xs a⟩ F' w S φ' := by
  obtain ⟨B, vals, o1, o2, o3, o4, o5⟩ := h.ents k _ hk
  have hkl := (List.getElem?_eq_some_iff.1 hk).1
  have hxa : xs[a]? = some (xs.getD a (T.d d)) := getD_get (T.d d) ha
  have hvl : vals.length = xs.length * T.size d := by rw [o1.len, o2]
  have hle : a * T.size d + T.size d ≤ xs.length * T.size d := by rw [← Nat.succ_mul]; exact Nat.mul_le_mul_right _ ha
  let cs := elD T d xs a
  let vs := (vals.drop (a * T.size d)).take (T.size d)
  have hcsl : cs.length = T.size d := T.len _ _
  have hvsl : vs.length = T.size d := by simp [vs]; omega
  have hcs : ∀ f c, cs[f]? = some c → f < T.size d ∧ (xs.flatMap (T.cells d))[a * T.size d + f]? = some c := fun f c hf => by
    have := (List.getElem?_eq_some_iff.1 hf).1
    exact ⟨by omega, by rw [at_range (T.len d) hxa (by omega)]; exact hf⟩
  have hvs : ∀ f v, vs[f]? = some v → vals[a * T.size d + f]? = some v := fun f v hf => by
    simp only [vs, List.getElem?_take] at hf
    split at hf
    · rw [List.getElem?_drop] at hf; exact hf
    · cases hf
  have hdc : ∀ f c v, cs[f]? = some c → vs[f]? = some v → DC T w S (fe.getD f 0) c v ∧ ∀ b ∈ cblk T (fe.getD f 0) c v, b ∈ (φ k).xs ∧ ∀ a, (φ k).ad = some a → a.block ≠ b := fun f c v h1 h2 => by
    obtain ⟨h3, h4⟩ := hcs f c h1
    have := o5.cl _ c v h4 (hvs f v h2) (fun q => q)
    rwa [show (a * T.size d + f) % T.size d = f by rw [Nat.mul_comm, Nat.mul_add_mod, Nat.mod_eq_of_lt h3]] at this
  obtain ⟨rs, p, k1, k2, k3, k4, k5, k6⟩ := openCs_spec (fe := fe) (S := S) (w := w) H.length (hcsl.trans hvsl.symm) fun f c v h1 h2 => (hdc f c v h1 h2).1
  let OB := rs.flatMap fun ra => blks ra.ad
  have hob : ∀ {b : Nat}, b ∈ OB → ∃ (r : Nat) (ra : RA), rs[r]? = some ra ∧ b ∈ blks ra.ad := fun {b} hb => by
    obtain ⟨ra, h1, h2⟩ := List.mem_flatMap.1 hb
    obtain ⟨r, hr⟩ := List.mem_iff_getElem?.1 h1
    exact ⟨r, ra, hr, h2⟩
  let φ' : Nat → RA := fun i => if i < H.length then (if i = k then ⟨(φ k).ad, (φ k).n, (φ k).cap, (φ k).xs.filter fun b => !OB.contains b⟩ else φ i) else rs.getD (i - H.length) ⟨none, 0, 0, []⟩
  have pk : φ' k = ⟨(φ k).ad, (φ k).n, (φ k).cap, (φ k).xs.filter fun b => !OB.contains b⟩ := by show (if k < H.length then _ else _) = _; rw [if_pos hkl, if_pos rfl]
  have po : ∀ i, i < H.length → i ≠ k → φ' i = φ i := fun i hi hne => by show (if i < H.length then _ else _) = _; rw [if_pos hi, if_neg hne]
  have pn : ∀ r ra, rs[r]? = some ra → φ' (H.length + r) = ra := fun r ra hr => by
    show (if H.length + r < H.length then _ else _) = _
    rw [if_neg (by omega), Nat.add_sub_cancel_left, List.getD_eq_getElem?_getD, hr]; rfl
  have hs : ∀ i, i < H.length → RSame (φ' i) (φ i) := fun i hi => by
    by_cases he : i = k
    · subst he; rw [pk]; exact ⟨rfl, rfl, rfl⟩
    · rw [po i hi he]; exact .of rfl
  have hatk : ∀ {x}, At (φ' k) x → At (φ k) x ∧ x.block ∉ OB := fun {x} hx => by
    rw [pk] at hx
    have notOB : ∀ {b}, b ∈ OB → b ∈ (φ k).xs ∧ ∀ a, (φ k).ad = some a → a.block ≠ b := fun {b} hb => by
      obtain ⟨r, ra, hr, hb⟩ := hob hb
      obtain ⟨_, c, v, q2, q3, q4⟩ := k4 r ra hr
      exact (hdc _ c v q2 q3).2 b (q4 ▸ hb)
    rcases hx with hx | hx
    · exact ⟨.inl hx, fun hb => (notOB hb).2 x hx rfl⟩
    · obtain ⟨h1, h2⟩ := List.mem_filter.1 hx
      exact ⟨.inr h1, fun hb => absurd hb (by simpa using h2)⟩
  have hatn : ∀ {r ra x}, rs[r]? = some ra → At ra x → x.block ∈ (φ k).xs ∧ x.block ∈ OB ∧ ∃ c v, cs[p r]? = some c ∧ vs[p r]? = some v ∧ x.block ∈ cblk T (fe.getD (p r) 0) c v := fun {r ra x} hr hx => by
    obtain ⟨q1, c, v, q2, q3, q4⟩ := k4 r ra hr
    have had : ra.ad = some x := by
      rcases hx with hx | hx
      · exact hx
      · rw [q1] at hx; cases hx
    have hb : x.block ∈ blks ra.ad := by rw [had]; simp [blks]
    exact ⟨((hdc _ c v q2 q3).2 _ (q4 ▸ hb)).1, List.mem_flatMap.2 ⟨ra, List.mem_of_getElem? hr, hb⟩, c, v, q2, q3, q4 ▸ hb⟩
  have get : ∀ (i : Nat) (f : Ent T.U), (openH T H k e d fe xs a)[i]? = some f → (i = k ∧ f = .drow e d fe xs (some (a, (openCs T fe cs H.length).1))) ∨ (i < H.length ∧ i ≠ k ∧ H[i]? = some f) ∨ ∃ r ra, i = H.length + r ∧ rs[r]? = some ra ∧ (openCs T fe cs H.length).2[r]? = some f := by
    intro i f hf
    unfold openH at hf
    by_cases hi : i < H.length
    · rw [List.getElem?_append_left (by simpa using hi)] at hf
      by_cases he : i = k
      · subst he; rw [List.getElem?_set_self hkl] at hf; exact .inl ⟨rfl, (Option.some.inj hf).symm⟩
      · rw [List.getElem?_set_ne (Ne.symm he)] at hf; exact .inr (.inl ⟨hi, he, hf⟩)
    · rw [List.getElem?_append_right (by simp; omega)] at hf
      simp only [List.length_set] at hf
      obtain ⟨ra, hr, _⟩ := k3 _ f hf
      exact .inr (.inr ⟨i - H.length, ra, by omega, hr, hf⟩)
  have hlen : (openH T H k e d fe xs a).length = H.length + rs.length := by unfold openH; simp only [List.length_append, List.length_set]; rw [k1]
  refine ⟨φ', hs, h.ghost (by omega) hs (fun i e1 t ys hi hx => ?_) (fun i f hf hl x hx => ?_) (fun i f hf => ?_) (fun i f hf j hj => ?_) (fun i j f f' hf hf' hl hl' hij x y hx hy => ?_)⟩
  · rcases get i _ hx with ⟨_, q⟩ | ⟨_, _, q⟩ | ⟨r, _, q, _⟩
    · cases q
    · exact q
    · omega
  · rcases get i f hf with ⟨rfl, rfl⟩ | ⟨q1, q2, q3⟩ | ⟨r, ra, rfl, q2, q3⟩
    · exact ⟨i, _, x, hk, rfl, (hatk hx).1, rfl⟩
    · rw [po i q1 q2] at hx; exact ⟨i, f, x, q3, hl, hx, rfl⟩
    · rw [pn r ra q2] at hx
      exact ⟨k, _, ⟨x.block, 0, none⟩, hk, rfl, .inr (hatn q2 hx).1, rfl⟩
  · rcases get i f hf with ⟨rfl, rfl⟩ | ⟨q1, q2, q3⟩ | ⟨r, ra, rfl, q2, q3⟩
    · refine ⟨B, vals, by rw [pk]; exact o1, by rw [pk]; exact o2, o3, fun z hz => o4 z (by rw [pk] at hz; exact hz), fun j c v h1 h2 h3 => ?_, fun j j' c c' v v' hj h1 h2 _ h4 h5 _ => o5.ap j j' c c' v v' hj h1 h2 (fun q => q) h4 h5 fun q => q, fun a0 cs0 hop => ?_⟩
      · obtain ⟨g1, g2⟩ := o5.cl j c v h1 h2 (fun q => q)
        refine ⟨g1, fun b hb => ?_⟩
        rw [pk]
        refine ⟨List.mem_filter.2 ⟨(g2 b hb).1, ?_⟩, (g2 b hb).2⟩
        cases hq : OB.contains b with
        | false => rfl
        | true =>
          obtain ⟨r, ra, hr, hb'⟩ := hob (List.contains_iff_mem.1 hq)
          obtain ⟨_, c', v', q2, q3, q4⟩ := k4 r ra hr
          obtain ⟨q5, q6⟩ := hcs _ c' q2
          have hmod : (a * T.size d + p r) % T.size d = p r := by rw [Nat.mul_comm, Nat.mul_add_mod, Nat.mod_eq_of_lt q5]
          refine absurd (q4 ▸ hb') (hmod ▸ o5.ap j _ c c' v v' (fun e => h3 ?_) h1 h2 (fun q => q) q6 (hvs _ v' q3) (fun q => q) b hb)
          subst e; exact ⟨by omega, by omega⟩
      · simp only [Option.some.injEq, Prod.mk.injEq] at hop
        obtain ⟨rfl, rfl⟩ := hop
        refine ⟨ha, (openCs_len _ _ _).trans hcsl, fun f x hx => ?_⟩
        obtain ⟨v, h1, h2⟩ := (k2 φ' pn).get T hx
        exact ⟨v, hvs f v h1, h2⟩
    · refine (h.ents i f q3).phiE (po i q1 q2) fun j hj => hs j (h.eids i f q3 j hj)
    · obtain ⟨ra', g1, g2, g3⟩ := k3 r f q3
      rw [q2] at g1; obtain rfl := Option.some.inj g1
      refine g3 φ' (pn r ra q2) fun x hx => ?_
      have := (hatn q2 (.inl hx)).1
      exact liveAt h hk rfl (a := ⟨x.block, 0, none⟩) (.inr this)
  · rw [hlen]
    rcases get i f hf with ⟨rfl, rfl⟩ | ⟨q1, q2, q3⟩ | ⟨r, ra, rfl, q2, q3⟩
    · have := k6 j hj; omega
    · have := h.eids i f q3 j hj; simp only at this; omega
    · obtain ⟨ra', g1, g2, g3⟩ := k3 r f q3; rw [g2] at hj; cases hj
  · rcases get i f hf with ⟨rfl, rfl⟩ | ⟨q1, q2, q3⟩ | ⟨r, ra, rfl, q2, q3⟩ <;> rcases get j f' hf' with ⟨rfl, rfl⟩ | ⟨u1, u2, u3⟩ | ⟨r', ra', rfl, u2, u3⟩
    · exact absurd rfl hij
    · rw [po j u1 u2] at hy; exact h.apart i j _ _ hk u3 rfl hl' hij x y (hatk hx).1 hy
    · rw [pn r' ra' u2] at hy; exact fun e => (hatk hx).2 (e ▸ (hatn u2 hy).2.1)
    · rw [po i q1 q2] at hx; exact h.apart i j _ _ q3 hk hl rfl hij x y hx (hatk hy).1
    · rw [po i q1 q2] at hx; rw [po j u1 u2] at hy; exact h.apart i j _ _ q3 u3 hl hl' hij x y hx hy
    · rw [po i q1 q2] at hx; rw [pn r' ra' u2] at hy
      exact h.apart i k _ _ q3 hk hl rfl q2 x ⟨y.block, 0, none⟩ hx (.inr (hatn u2 hy).1)
    · rw [pn r ra q2] at hx; exact fun e => (hatk hy).2 (e ▸ (hatn q2 hx).2.1)
    · rw [pn r ra q2] at hx; rw [po j u1 u2] at hy
      exact h.apart k j _ _ hk u3 rfl hl' (Ne.symm u2) ⟨x.block, 0, none⟩ y (.inr (hatn q2 hx).1) hy
    · rw [pn r ra q2] at hx; rw [pn r' ra' u2] at hy
      obtain ⟨_, _, c, v, g1, g2, g3⟩ := hatn q2 hx
      obtain ⟨_, _, c', v', g1', g2', g3'⟩ := hatn u2 hy
      intro e
      have hmod : ∀ {f : Nat}, f < T.size d → (a * T.size d + f) % T.size d = f := fun {f} hf => by rw [Nat.mul_comm, Nat.mul_add_mod, Nat.mod_eq_of_lt hf]
      have hap := o5.ap _ _ c c' v v' (fun q => hij ?_) (hcs _ c g1).2 (hvs _ v g2) (fun q => q) (hcs _ c' g1').2 (hvs _ v' g2') (fun q => q)
      · rw [hmod (hcs _ c g1).1, hmod (hcs _ c' g1').1] at hap
        exact absurd (e ▸ g3') (hap _ g3)
      rw [k5 r r' (by omega)]
end
end Go.X

/- Rows of structs whose lists lie in blocks of their own: what is open is closed. Nothing here is about one program. -/
namespace Go.X
open Go.RowKit Go.V

section
variable {T : Tab} {P : Program} {w w' : World} {S S' : List Nat} {φ φ' : Nat → RA} {w0 : World} {S0 : Ow} {F : AF T} {H : List (Ent T.U)} {F' : PF}
theorem nodup_cons {i : Nat} {r : List Nat} (h : nodupN (i :: r) = true) : i ∉ r ∧ nodupN r = true := by
  unfold nodupN at h
  simp only [Bool.and_eq_true, Bool.not_eq_true'] at h
  exact ⟨fun hm => (by have := memN_iff.2 hm; rw [h.1] at this; cases this), h.2⟩
theorem CellsR.nilC : CellsR T w S [] [] := ⟨rfl, fun j c v h => by simp at h⟩
/-- a cell that is closed. -/
theorem closeC_spec (h : Sim T w0 S0 ⟨F, H⟩ F' w S φ) {t : Ty} {e : TypeId} {a : AV T.U} {c : Cell T.U} {l : List Nat} (hc : closeC T H t e a = some (c, l)) {v : Value} (hv : VR T w S φ a v) :
    DC T w S e c v ∧ ((l = [] ∧ cblk T e c v = [] ∧ ∀ j, a ≠ .own j) ∨ ∃ j e1 t1 ys, l = [j] ∧ a = .own j ∧ H[j]? = some (.row e1 t1 ys) ∧ cblk T e c v = blks (φ j).ad) := by
  unfold closeC at hc
  split at hc
  · rename_i j
    split at hc <;> try (cases hc; done)
    rename_i e' t' ys t0 hj
    split at hc <;> try (cases hc; done)
    rename_i he
    simp only [Bool.and_eq_true, Bool.not_eq_true'] at he
    obtain ⟨he, hez⟩ := he
    have := Nat.eq_of_beq_eq_true he; subst this
    split at hc <;> try (cases hc; done)
    rename_i ht
    subst ht
    simp only [Option.some.injEq, Prod.mk.injEq] at hc
    obtain ⟨rfl, rfl⟩ := hc
    rw [VR] at hv; subst hv
    obtain ⟨B, vals, o1, o2, o3, o4, o5⟩ := h.ents j _ hj
    refine ⟨⟨fun h0 => absurd h0 (beq0 hez), fun _ => ⟨B, (φ j).ad, (φ j).cap, vals, by rw [o2], by rw [o2] at o1; exact o1, o3, o4⟩⟩, .inr ⟨j, _, _, ys, rfl, rfl, hj, by unfold cblk; rw [hez]⟩⟩
  · split at hc <;> try (cases hc; done)
    rename_i t0
    simp only [Option.some.injEq, Prod.mk.injEq] at hc
    obtain ⟨rfl, rfl⟩ := hc
    rw [VR] at hv; subst hv
    exact ⟨⟨fun _ => CR.nilS, fun _ => ⟨0, none, 0, [], rfl, Own.nil _ _ _ _, Nat.zero_le _, CellsR.nilC⟩⟩, .inl ⟨rfl, by unfold cblk; cases Nat.beq e 0 <;> rfl, by intro j hj; cases hj⟩⟩
  · split at hc <;> try (cases hc; done)
    rename_i c0 _ hs
    obtain ⟨t, x⟩ := c0
    cases hez : Nat.beq e 0 with
    | true =>
      have := Nat.eq_of_beq_eq_true hez; subst this
      simp only [Option.some.injEq, Prod.mk.injEq] at hc; obtain ⟨rfl, rfl⟩ := hc
      refine ⟨?_, .inl ⟨rfl, rfl, by intro j hj; cases hj⟩⟩
      cases t <;> first | exact ⟨fun _ => hv, fun h => absurd rfl h⟩ | exact hv
    | false =>
      rw [hez, Bool.or_false] at hs
      have hcb : cblk T e (⟨t, x⟩ : Cell T.U) v = [] := by unfold cblk; rw [hez]; cases t <;> first | (cases hs; done) | rfl
      simp only [Option.some.injEq, Prod.mk.injEq] at hc; obtain ⟨rfl, rfl⟩ := hc
      refine ⟨?_, .inl ⟨rfl, hcb, by intro j hj; cases hj⟩⟩
      cases t <;> first | (cases hs; done) | exact hv
  · cases hc
theorem closeCs_spec (h : Sim T w0 S0 ⟨F, H⟩ F' w S φ) : ∀ {ts : List Ty} {fe : List TypeId} {as : List (AV T.U)} {cs : List (Cell T.U)} {ids : List Nat} {vs : List Value}, closeCs T H ts fe as = some (cs, ids) → VRL T w S φ as vs →
    cs.length = as.length ∧ (∀ (f : Nat) (c : Cell T.U) (v : Value), cs[f]? = some c → vs[f]? = some v → DC T w S (fe.getD f 0) c v) ∧ (∀ (f : Nat) (c : Cell T.U) (v : Value) (b : Nat), cs[f]? = some c → vs[f]? = some v → b ∈ cblk T (fe.getD f 0) c v → ∃ (j : Nat) (ad : Addr), as[f]? = some (AV.own j : AV T.U) ∧ j ∈ ids ∧ (φ j).ad = some ad ∧ ad.block = b) ∧
      (∀ j ∈ ids, ∃ e t ys, H[j]? = some (.row e t ys)) ∧ (∀ (f j : Nat), as[f]? = some (AV.own j : AV T.U) → j ∈ ids) ∧ (nodupN ids = true → ∀ (f f' j : Nat), as[f]? = some (AV.own j : AV T.U) → as[f']? = some (AV.own j : AV T.U) → f = f')
  | [], fe, [], cs, ids, vs, hc, _ => by
    simp only [closeCs, Option.some.injEq, Prod.mk.injEq] at hc
    obtain ⟨rfl, rfl⟩ := hc
    exact ⟨rfl, fun f c v h => by simp at h, fun f c v b h => by simp at h, by simp, fun f j h => by simp at h, fun _ f f' j h => by simp at h⟩
  | [], _, _ :: _, _, _, _, hc, _ => by simp [closeCs] at hc
  | _ :: _, _, [], _, _, _, hc, _ => by simp [closeCs] at hc
  | _ :: _, _, _ :: _, _, _, [], _, hv => hv.elim
  | t :: ts, fe, a :: as, cs, ids, v :: vs, hc, hv => by
    unfold closeCs at hc
    split at hc <;> try (cases hc; done)
    rename_i c l cs1 ls h1 h2
    simp only [Option.some.injEq, Prod.mk.injEq] at hc
    obtain ⟨rfl, rfl⟩ := hc
    obtain ⟨g1, g2⟩ := closeC_spec h h1 hv.1
    obtain ⟨k1, k2, k3, k4, k5, k6⟩ := closeCs_spec h h2 hv.2
    refine ⟨by simp [k1], fun f c' v' q1 q2 => ?_, fun f c' v' b q1 q2 q3 => ?_, fun j hj => ?_, fun f j hf => ?_, fun hn f f' j q1 q2 => ?_⟩
    · cases f with
      | zero =>
        simp only [List.getElem?_cons_zero, Option.some.injEq] at q1 q2
        subst q1; subst q2; rw [getD0]; exact g1
      | succ f => rw [getDs]; exact k2 f c' v' (by simpa using q1) (by simpa using q2)
    · cases f with
      | zero =>
        simp only [List.getElem?_cons_zero, Option.some.injEq] at q1 q2
        subst q1; subst q2
        rw [getD0] at q3
        rcases g2 with ⟨_, u2, _⟩ | ⟨j, _, _, _, rfl, rfl, _, u4⟩
        · rw [u2] at q3; cases q3
        · rw [u4] at q3
          unfold blks at q3
          split at q3
          · rename_i ad had
            simp only [List.mem_singleton] at q3
            exact ⟨j, ad, rfl, by simp, had, q3.symm⟩
          · cases q3
      | succ f =>
        rw [getDs] at q3
        obtain ⟨j, ad, u1, u2, u3, u4⟩ := k3 f c' v' b (by simpa using q1) (by simpa using q2) q3
        exact ⟨j, ad, by simpa using u1, List.mem_append.2 (.inr u2), u3, u4⟩
    · rcases List.mem_append.1 hj with hj | hj
      · rcases g2 with ⟨rfl, _⟩ | ⟨j', _, _, _, rfl, _, u3, _⟩
        · cases hj
        · simp only [List.mem_singleton] at hj; subst hj; exact ⟨_, _, _, u3⟩
      · exact k4 j hj
    · cases f with
      | zero =>
        simp only [List.getElem?_cons_zero, Option.some.injEq] at hf
        rcases g2 with ⟨_, _, u⟩ | ⟨j', _, _, _, rfl, rfl, _, _⟩
        · exact absurd hf (u j)
        · cases hf; simp
      | succ f => exact List.mem_append.2 (.inr (k5 f j (by simpa using hf)))
    · have hls : nodupN ls = true ∧ ∀ j, a = .own j → j ∉ ls := by
        rcases g2 with ⟨rfl, _, u⟩ | ⟨j', _, _, _, rfl, rfl, _, _⟩
        · exact ⟨hn, fun j hj => absurd hj (u j)⟩
        · obtain ⟨n1, n2⟩ := nodup_cons hn
          exact ⟨n2, fun j hj => by cases hj; exact n1⟩
      cases f with
      | zero =>
        simp only [List.getElem?_cons_zero, Option.some.injEq] at q1
        cases f' with
        | zero => rfl
        | succ f' => exact absurd (k5 f' j (by simpa using q2)) (hls.2 j q1)
      | succ f =>
        cases f' with
        | zero =>
          simp only [List.getElem?_cons_zero, Option.some.injEq] at q2
          exact absurd (k5 f j (by simpa using q1)) (hls.2 j q2)
        | succ f' => rw [k6 hls.1 f f' j (by simpa using q1) (by simpa using q2)]
theorem putL_get {α : Type} : ∀ (l cs : List α) (o j : Nat), o + l.length ≤ cs.length → (putL cs o l)[j]? = if o ≤ j ∧ j < o + l.length then l[j - o]? else cs[j]?
  | [], cs, o, j, _ => by rw [putL, if_neg (by simp only [List.length_nil]; omega)]
  | a :: r, cs, o, j, h => by
    simp only [List.length_cons] at h
    have hl : o + 1 + r.length ≤ (cs.set o a).length := by rw [List.length_set]; omega
    rw [putL, putL_get r _ _ _ hl]
    simp only [List.length_cons]
    by_cases h1 : o + 1 ≤ j ∧ j < o + 1 + r.length
    · rw [if_pos h1, if_pos (by omega), show j - o = (j - (o + 1)) + 1 by omega, List.getElem?_cons_succ]
    · rw [if_neg h1]
      by_cases h2 : j = o
      · subst h2; rw [if_pos (by omega), List.getElem?_set_self (by omega), Nat.sub_self, List.getElem?_cons_zero]
      · rw [if_neg (by omega), List.getElem?_set_ne (Ne.symm h2)]
theorem set_range {α β : Type} {f : α → List β} {sz : Nat} (hf : ∀ y, (f y).length = sz) {l : List α} {a : Nat} {y : α} (ha : a < l.length) (j : Nat) : ((l.set a y).flatMap f)[j]? = if a * sz ≤ j ∧ j < a * sz + sz then (f y)[j - a * sz]? else (l.flatMap f)[j]? := by
  have hx : l[a]? = some l[a] := List.getElem?_eq_getElem ha
  have hle : a * sz + sz ≤ l.length * sz := by rw [← Nat.succ_mul]; exact Nat.mul_le_mul_right _ ha
  rw [flatMap_set hf hx (y := y) (l := f y) (c := 0) (by rw [putL_all _ _ (by rw [hf, hf]; exact Nat.le_refl _), hf, List.drop_of_length_le (by rw [hf]; exact Nat.le_refl _), List.append_nil]) (by rw [hf]; omega), putL_get _ _ _ _ (by rw [hf, flatMap_len' hf]; omega), hf, Nat.add_zero]
/-- what is open is closed. -/
theorem Sim.closeD (h : Sim T w0 S0 ⟨F, H⟩ F' w S φ) {k : Nat} {e : TypeId} {d : Nat} {fe : List TypeId} {xs : List (T.U d)} {a : Nat} {as : List (AV T.U)} {l : List (Cell T.U)} {ids : List Nat} {y : T.U d} (hk : H[k]? = some (.drow e d fe xs (some (a, as)))) (hc : closeCs T H (tysOf T d) fe as = some (l, ids)) (hn : nodupN ids = true) (hp : T.pack d l = some y) :
    ∃ φ', (∀ i, RSame (φ' i) (φ i)) ∧ Sim T w0 S0 ⟨F, goneL T (H.set k (.drow e d fe (xs.set a y) none)) ids⟩ F' w S φ' := by
  obtain ⟨B, vals, o1, o2, o3, o4, o5⟩ := h.ents k _ hk
  have hkl := (List.getElem?_eq_some_iff.1 hk).1
  obtain ⟨ha, hal, hop⟩ := o5.opn _ _ rfl
  have hvl : vals.length = xs.length * T.size d := by rw [o1.len, o2]
  have hle : a * T.size d + T.size d ≤ xs.length * T.size d := by rw [← Nat.succ_mul]; exact Nat.mul_le_mul_right _ ha
  let vs := (vals.drop (a * T.size d)).take (T.size d)
  have hvsl : vs.length = T.size d := by simp [vs]; omega
  have hvs : ∀ f, f < T.size d → vs[f]? = vals[a * T.size d + f]? := fun f hf => by simp only [vs, List.getElem?_take, if_pos hf, List.getElem?_drop]
  have hvrl : VRL T w S φ as vs := by
    have key : ∀ (as : List (AV T.U)) (vs : List Value), as.length = vs.length → (∀ (f : Nat) (x : AV T.U), as[f]? = some x → ∃ v, vs[f]? = some v ∧ VR T w S φ x v) → VRL T w S φ as vs := by
      intro as
      induction as with
      | nil => intro vs hl _; cases vs with
        | nil => trivial
        | cons _ _ => simp at hl
      | cons x r ih =>
        intro vs hl hx
        cases vs with
        | nil => simp at hl
        | cons v s =>
          obtain ⟨v', h1, h2⟩ := hx 0 x rfl
          simp only [List.getElem?_cons_zero, Option.some.injEq] at h1; subst h1
          exact ⟨h2, ih s (by simpa using hl) fun f z hz => by simpa using hx (f + 1) z (by simpa using hz)⟩
    refine key as vs (hal.trans hvsl.symm) fun f x hx => ?_
    have hf : f < T.size d := by have := (List.getElem?_eq_some_iff.1 hx).1; omega
    rw [hvs f hf]; exact hop f x hx
  obtain ⟨k1, k2, k3, k4, k5, k6⟩ := closeCs_spec h hc hvrl
  have hy : T.cells d y = l := T.packed _ _ _ hp
  have hki : k ∉ ids := fun hm => by obtain ⟨_, _, _, q⟩ := k4 k hm; rw [hk] at q; cases q
  let φ' : Nat → RA := fun i => if i = k then ⟨(φ k).ad, (φ k).n, (φ k).cap, (φ k).xs ++ ids.flatMap fun j => (φ j).all⟩ else φ i
  have pk : φ' k = ⟨(φ k).ad, (φ k).n, (φ k).cap, (φ k).xs ++ ids.flatMap fun j => (φ j).all⟩ := if_pos rfl
  have po : ∀ i, i ≠ k → φ' i = φ i := fun i hi => if_neg hi
  have hs : ∀ i, RSame (φ' i) (φ i) := fun i => by
    by_cases he : i = k
    · subst he; rw [pk]; exact ⟨rfl, rfl, rfl⟩
    · rw [po i he]; exact .of rfl
  have hatk : ∀ {x}, At (φ' k) x → At (φ k) x ∨ ∃ j ∈ ids, ∃ z, At (φ j) z ∧ z.block = x.block := fun {x} hx => by
    rw [pk] at hx
    rcases hx with hx | hx
    · exact .inl (.inl hx)
    · rcases List.mem_append.1 hx with hx | hx
      · exact .inl (.inr hx)
      · obtain ⟨j, hj, hx⟩ := List.mem_flatMap.1 hx
        exact .inr ⟨j, hj, mem_all.1 hx⟩
  have get : ∀ (i : Nat) (f : Ent T.U), (goneL T (H.set k (.drow e d fe (xs.set a y) none)) ids)[i]? = some f → f.live = true → (i = k ∧ f = .drow e d fe (xs.set a y) none) ∨ (i ∉ ids ∧ i ≠ k ∧ H[i]? = some f) := by
    intro i f hf hl
    obtain ⟨g1, g2⟩ := goneL_get hf hl
    by_cases he : i = k
    · subst he; rw [List.getElem?_set_self hkl] at g2; exact .inl ⟨rfl, (Option.some.inj g2).symm⟩
    · rw [List.getElem?_set_ne (Ne.symm he)] at g2; exact .inr ⟨g1, he, g2⟩
  have hlen : (goneL T (H.set k (.drow e d fe (xs.set a y) none)) ids).length = H.length := by rw [goneL_len]; simp
  have hcl : ∀ {f : Ent T.U}, f = .gone ∨ f.live = true := fun {f} => by cases f <;> first | exact .inl rfl | exact .inr rfl
  -- the cells
  have cells : ∀ j c v, ((xs.set a y).flatMap (T.cells d))[j]? = some c → vals[j]? = some v → (∃ f, j = a * T.size d + f ∧ f < T.size d ∧ l[f]? = some c ∧ vs[f]? = some v) ∨ ((xs.flatMap (T.cells d))[j]? = some c ∧ ¬ inOp T (T.size d) (some (a, as)) j) := by
    intro j c v h1 h2
    rw [set_range (T.len d) ha] at h1
    split at h1
    · rename_i hj
      rw [hy] at h1
      refine .inl ⟨j - a * T.size d, by omega, by omega, h1, ?_⟩
      rw [hvs _ (by omega), show a * T.size d + (j - a * T.size d) = j by omega]; exact h2
    · rename_i hj; exact .inr ⟨h1, hj⟩
  refine ⟨φ', hs, h.ghost (by omega) (fun i _ => hs i) (fun i e1 t ys _ hx => ?_) (fun i f hf hl x hx => ?_) (fun i f hf => ?_) (fun i f hf j hj => ?_) (fun i j f f' hf hf' hl hl' hij x z hx hz => ?_)⟩
  · rcases get i _ hx rfl with ⟨_, q⟩ | ⟨_, _, q⟩
    · cases q
    · exact q
  · rcases get i f hf hl with ⟨rfl, rfl⟩ | ⟨_, q2, q3⟩
    · rcases hatk hx with hx | ⟨j, hj, z, hz, he⟩
      · exact ⟨i, _, x, hk, rfl, hx, rfl⟩
      · obtain ⟨_, _, _, q⟩ := k4 j hj; exact ⟨j, _, z, q, rfl, hz, he⟩
    · rw [po i q2] at hx; exact ⟨i, f, x, q3, hl, hx, rfl⟩
  · rcases hcl (f := f) with rfl | hl
    · trivial
    rcases get i f hf hl with ⟨rfl, rfl⟩ | ⟨_, q2, q3⟩
    · refine ⟨B, vals, by rw [pk]; exact o1, by rw [pk, List.length_set]; exact o2, o3, fun z hz => o4 z (by rw [pk] at hz; exact hz), fun j c v h1 h2 _ => ?_, fun j j' c c' v v' hj h1 h2 _ h4 h5 _ b hb hb' => ?_, fun a0 cs0 hq => by cases hq⟩
      · rcases cells j c v h1 h2 with ⟨f, rfl, hf, u1, u2⟩ | ⟨u1, u2⟩
        · rw [show (a * T.size d + f) % T.size d = f by rw [Nat.mul_comm, Nat.mul_add_mod, Nat.mod_eq_of_lt hf]]
          refine ⟨k2 f c v u1 u2, fun b hb => ?_⟩
          obtain ⟨j, ad, g1, g2, g3, rfl⟩ := k3 f c v b u1 u2 hb
          obtain ⟨_, _, _, q⟩ := k4 j g2
          rw [pk]
          refine ⟨List.mem_append.2 (.inr (List.mem_flatMap.2 ⟨j, g2, mem_all.2 ⟨ad, .inl g3, rfl⟩⟩)), fun z hz => ?_⟩
          exact h.apart i j _ _ hk q rfl rfl (fun e => hki (e ▸ g2)) z ad (.inl hz) (.inl g3)
        · obtain ⟨g1, g2⟩ := o5.cl j c v u1 h2 u2
          refine ⟨g1, fun b hb => ?_⟩
          rw [pk]; exact ⟨List.mem_append.2 (.inl (g2 b hb).1), (g2 b hb).2⟩
      · have hmod : ∀ {f : Nat}, f < T.size d → (a * T.size d + f) % T.size d = f := fun {f} hf => by rw [Nat.mul_comm, Nat.mul_add_mod, Nat.mod_eq_of_lt hf]
        have mixed : ∀ {f : Nat} {c : Cell T.U} {v : Value} {j' : Nat} {c' : Cell T.U} {v' : Value}, l[f]? = some c → vs[f]? = some v → (xs.flatMap (T.cells d))[j']? = some c' → vals[j']? = some v' → ¬ inOp T (T.size d) (some (a, as)) j' → b ∈ cblk T (fe.getD f 0) c v → b ∈ cblk T (fe.getD (j' % T.size d) 0) c' v' → False := by
          intro f c v j' c' v' u1 u2 u3 u4 u5 u6 u7
          obtain ⟨j, ad, g1, g2, g3, rfl⟩ := k3 f c v b u1 u2 u6
          obtain ⟨_, _, _, q⟩ := k4 j g2
          have := ((o5.cl j' c' v' u3 u4 u5).2 _ u7).1
          exact h.apart i j _ _ hk q rfl rfl (fun e => hki (e ▸ g2)) ⟨ad.block, 0, none⟩ ad (.inr this) (.inl g3) rfl
        rcases cells j c v h1 h2 with ⟨f, rfl, hf, u1, u2⟩ | ⟨u1, u2⟩ <;> rcases cells j' c' v' h4 h5 with ⟨f', rfl, hf', u1', u2'⟩ | ⟨u1', u2'⟩
        · rw [hmod hf] at hb
          rw [hmod hf'] at hb'
          obtain ⟨j, ad, g1, g2, g3, rfl⟩ := k3 f c v b u1 u2 hb
          obtain ⟨j', ad', g1', g2', g3', g4'⟩ := k3 f' c' v' _ u1' u2' hb'
          obtain ⟨_, _, _, q⟩ := k4 j g2
          obtain ⟨_, _, _, q'⟩ := k4 j' g2'
          by_cases hjj : j = j'
          · subst hjj; exact hj (by rw [k6 hn f f' j g1 g1'])
          · exact h.apart j j' _ _ q q' rfl rfl hjj ad ad' (.inl g3) (.inl g3') g4'.symm
        · rw [hmod hf] at hb; exact mixed u1 u2 u1' h5 u2' hb hb'
        · rw [hmod hf'] at hb'; exact mixed u1' u2' u1 h2 u2 hb' hb
        · exact o5.ap j j' c c' v v' hj u1 h2 u2 u1' h5 u2' b hb hb'
    · exact (h.ents i f q3).phiE (po i q2) fun j _ => hs j
  · rw [hlen]
    rcases hcl (f := f) with rfl | hl
    · cases hj
    rcases get i f hf hl with ⟨rfl, rfl⟩ | ⟨_, q2, q3⟩
    · cases hj
    · exact h.eids i f q3 j hj
  · have mixed : ∀ {i f x z}, i ∉ ids → i ≠ k → H[i]? = some f → f.live = true → At (φ' k) x → At (φ' i) z → x.block ≠ z.block := by
      intro i f x z u1 u2 u3 u4 u5 u6
      rw [po i u2] at u6
      rcases hatk u5 with hx | ⟨j, hj, z', hz', he⟩
      · exact h.apart k i _ _ hk u3 rfl u4 (Ne.symm u2) x z hx u6
      · obtain ⟨_, _, _, q⟩ := k4 j hj
        rw [← he]; exact h.apart j i _ _ q u3 rfl u4 (fun e => u1 (e ▸ hj)) z' z hz' u6
    rcases get i f hf hl with ⟨rfl, rfl⟩ | ⟨q1, q2, q3⟩ <;> rcases get j f' hf' hl' with ⟨rfl, rfl⟩ | ⟨u1, u2, u3⟩
    · exact absurd rfl hij
    · exact mixed u1 u2 u3 hl' hx hz
    · exact (mixed q1 q2 q3 hl hz hx).symm
    · rw [po i q2] at hx; rw [po j u2] at hz; exact h.apart i j _ _ q3 u3 hl hl' hij x z hx hz
theorem tset_keys {α : Type} {x : Int} {y : α} : ∀ {m : List (Int × α)}, x ∈ m.map Prod.fst → (tset m x y).map Prod.fst = m.map Prod.fst
  | [], h => by simp at h
  | (z, a) :: r, h => by
    unfold tset
    split
    · rename_i e; subst e; rfl
    · rename_i hne
      simp only [List.map_cons, List.mem_cons, hne, false_or] at h
      rw [List.map_cons, List.map_cons, tset_keys h]
theorem tset_get {α : Type} {x : Int} {y : α} : ∀ {m : List (Int × α)} {p : Nat} {z : Int} {v : α}, x ∈ m.map Prod.fst → (m.map Prod.fst).Nodup → (tset m x y)[p]? = some (z, v) → ∃ u, m[p]? = some (z, u) ∧ (z = x → v = y) ∧ (z ≠ x → v = u)
  | [], _, _, _, h, _, _ => by simp at h
  | (q, a) :: r, p, z, v, h, hn, hp => by
    rw [List.map_cons, List.nodup_cons] at hn
    unfold tset at hp
    split at hp
    · rename_i e; subst e
      cases p with
      | zero => simp at hp; exact ⟨a, by simp [hp.1], fun _ => hp.2.symm, fun hz => absurd hp.1.symm hz⟩
      | succ p =>
        simp at hp
        exact ⟨v, by simpa using hp, fun e => absurd (List.mem_map.2 ⟨(z, v), List.mem_of_getElem? hp, rfl⟩) (e ▸ hn.1), fun _ => rfl⟩
    · rename_i hne
      simp only [List.map_cons, List.mem_cons, hne, false_or] at h
      cases p with
      | zero => simp at hp; exact ⟨a, by simp [hp.1], fun e => absurd (hp.1.trans e).symm hne, fun _ => hp.2.symm⟩
      | succ p =>
        obtain ⟨u, h1, h2⟩ := tset_get h hn.2 (by simpa using hp)
        exact ⟨u, by simpa using h1, h2⟩
theorem lensU_of {as : List (AV T.U)} : lensA T as → lensU as := by
  induction as with
  | nil => intro _ t n xs h; cases h
  | cons a r ih =>
    rintro ⟨h1, h2⟩ t n xs h
    rcases List.mem_cons.1 h with rfl | h
    · exact h1
    · exact ih h2 t n xs h
/-- what a map's key points to is closed. -/
theorem Sim.closeP (h : Sim T w0 S0 ⟨F, H⟩ F' w S φ) {k : Nat} {kd : IntKind} {be : TypeId} {d : Nat} {m : List (Int × T.U d)} {x : Int} {j : Nat} {cs : List (AV T.U)} {y : T.U d} (hk : H[k]? = some (.pmap kd be d m (some (x, j)))) (hj : H[j]? = some (.blk be cs)) (hkj : j ≠ k) (hy : T.rb d cs = some y) :
    ∃ φ', (∀ i, RSame (φ' i) (φ i)) ∧ Sim T w0 S0 ⟨F, (H.set k (.pmap kd be d (tset m x y) none)).set j .gone⟩ F' w S φ' := by
  obtain ⟨g, l, c, bs, a1, a2, a3, a4, a5⟩ := h.ents k _ hk
  obtain ⟨b, cb, b1, b2, b3, b4⟩ := h.ents j _ hj
  have hkl := (List.getElem?_eq_some_iff.1 hk).1
  have hin := a4.opn x j rfl
  have hbl : T.bl d y = cs := T.rbl d cs y hy (lensU_of b4.2)
  let φ' : Nat → RA := fun i => if i = k then ⟨(φ k).ad, (φ k).n, (φ k).cap, (φ k).xs ++ (φ j).all⟩ else φ i
  have pk : φ' k = ⟨(φ k).ad, (φ k).n, (φ k).cap, (φ k).xs ++ (φ j).all⟩ := if_pos rfl
  have po : ∀ i, i ≠ k → φ' i = φ i := fun i hi => if_neg hi
  have hs : ∀ i, RSame (φ' i) (φ i) := fun i => by
    by_cases he : i = k
    · subst he; rw [pk]; exact ⟨rfl, rfl, rfl⟩
    · rw [po i he]; exact .of rfl
  have hatk : ∀ {x}, At (φ' k) x → At (φ k) x ∨ ∃ z, At (φ j) z ∧ z.block = x.block := fun {x} hx => by
    rw [pk] at hx
    rcases hx with hx | hx
    · exact .inl (.inl hx)
    · rcases List.mem_append.1 hx with hx | hx
      · exact .inl (.inr hx)
      · exact .inr (mem_all.1 hx)
  have get : ∀ (i : Nat) (f : Ent T.U), ((H.set k (.pmap kd be d (tset m x y) none)).set j .gone)[i]? = some f → f.live = true → (i = k ∧ f = .pmap kd be d (tset m x y) none) ∨ (i ≠ j ∧ i ≠ k ∧ H[i]? = some f) := by
    intro i f hf hl
    obtain ⟨g1, g2⟩ := set_gone hf hl
    by_cases he : i = k
    · subst he; rw [List.getElem?_set_self hkl] at g2; exact .inl ⟨rfl, (Option.some.inj g2).symm⟩
    · rw [List.getElem?_set_ne (Ne.symm he)] at g2; exact .inr ⟨g1, he, g2⟩
  have hlen : ((H.set k (.pmap kd be d (tset m x y) none)).set j .gone).length = H.length := by simp
  have hcl : ∀ {f : Ent T.U}, f = .gone ∨ f.live = true := fun {f} => by cases f <;> first | exact .inl rfl | exact .inr rfl
  have hbk : ∀ {a}, (φ k).ad = some a → a.block ≠ b := fun {a} ha => h.apart k j _ _ hk hj rfl rfl (Ne.symm hkj) a ⟨b, 0, none⟩ (.inl ha) (.inl b1)
  refine ⟨φ', hs, h.ghost (by simp) (fun i _ => hs i) (fun i e1 t ys _ hx => ?_) (fun i f hf hl z hz => ?_) (fun i f hf => ?_) (fun i f hf q hq => ?_) (fun i i' f f' hf hf' hl hl' hne z z' hz hz' => ?_)⟩
  · rcases get i _ hx rfl with ⟨_, q⟩ | ⟨_, _, q⟩
    · cases q
    · exact q
  · rcases get i f hf hl with ⟨rfl, rfl⟩ | ⟨_, q2, q3⟩
    · rcases hatk hz with hz | ⟨z', hz', he⟩
      · exact ⟨i, _, z, hk, rfl, hz, rfl⟩
      · exact ⟨j, _, z', hj, rfl, hz', he⟩
    · rw [po i q2] at hz; exact ⟨i, f, z, q3, hl, hz, rfl⟩
  · rcases hcl (f := f) with rfl | hl
    · trivial
    rcases get i f hf hl with ⟨rfl, rfl⟩ | ⟨_, q2, q3⟩
    · refine ⟨g, l, c, bs, by rw [pk]; exact a1, a2, a3, ?_, a5⟩
      have hks := tset_keys (y := y) hin
      have hls : (tset m x y).length = m.length := by have := congrArg List.length hks; simpa using this
      have jb : ∀ {p : Nat} {u : T.U d} {bp : Nat}, m[p]? = some (x, u) → bs[p]? = some bp → bp = b := fun {p u bp} h1 h2 => by
        obtain ⟨e, he⟩ : ∃ e, l.toList[p]? = some e := ⟨l.toList[p]'(by rw [← a4.len]; exact (List.getElem?_eq_some_iff.1 h1).1), List.getElem?_eq_getElem _⟩
        have := (a4.at_ p x u e bp h1 he h2).2.2.1 j (if_pos rfl)
        rw [b1] at this; simp at this; exact this.symm
      have ne_op : ∀ {z : Int}, z ≠ x → opAt (some (x, j)) z = none := fun {z} hz => if_neg (Ne.symm hz)
      refine ⟨hls.trans a4.len, hls.trans a4.lenb, by rw [hks]; exact a4.nd, fun p z v e bp h1 h2 h3 => ?_, fun p p' z z' v v' bp hp h1 h2 _ _ h3 h4 => ?_, fun z i hz => by cases hz⟩
      · obtain ⟨u, u1, u2, u3⟩ := tset_get hin a4.nd h1
        obtain ⟨k1, k2, k3, k4⟩ := a4.at_ p z u e bp u1 h2 h3
        refine ⟨k1, k2, fun i hi => (by cases hi), fun _ => ?_⟩
        rw [pk]
        by_cases hzx : z = x
        · subst hzx
          obtain rfl := jb u1 h3
          refine ⟨List.mem_append.2 (.inr (mem_all.2 ⟨_, .inl b1, rfl⟩)), fun a ha => hbk ha, ?_⟩
          rw [u2 rfl]
          exact PB.renS T ⟨cb, b2, by rw [hbl]; exact b4⟩
        · obtain ⟨v1, v2, v3⟩ := k4 (ne_op hzx)
          rw [u3 hzx]
          exact ⟨List.mem_append.2 (.inl v1), v2, v3.renS T⟩
      · obtain ⟨u, u1, _, _⟩ := tset_get hin a4.nd h1
        obtain ⟨u', u1', _, _⟩ := tset_get hin a4.nd h2
        have off : ∀ {q : Nat} {z : Int} {u : T.U d} {bq : Nat}, m[q]? = some (z, u) → z ≠ x → bs[q]? = some bq → bq ≠ b := fun {q z u bq} q1 q2 q3 => by
          obtain ⟨e, he⟩ : ∃ e, l.toList[q]? = some e := ⟨l.toList[q]'(by rw [← a4.len]; exact (List.getElem?_eq_some_iff.1 q1).1), List.getElem?_eq_getElem _⟩
          have := ((a4.at_ q z u e bq q1 he q3).2.2.2 (ne_op q2)).1
          exact h.apart i j _ _ hk hj rfl rfl (Ne.symm hkj) ⟨bq, 0, none⟩ ⟨b, 0, none⟩ (.inr this) (.inl b1)
        by_cases e1 : z = x <;> by_cases e2 : z' = x
        · subst e1; subst e2
          have h5 := (List.getElem?_eq_some_iff.1 u1).1
          have h6 := (List.getElem?_eq_some_iff.1 u1').1
          refine hp ((List.getElem_inj (h₀ := by simpa using h5) (h₁ := by simpa using h6) a4.nd).1 ?_)
          simp [(List.getElem?_eq_some_iff.1 u1).2, (List.getElem?_eq_some_iff.1 u1').2]
        · subst e1; exact off u1' e2 h4 (jb u1 h3)
        · subst e2; exact off u1 e1 h3 (jb u1' h4)
        · exact a4.ap p p' z z' u u' bp hp u1 u1' (ne_op e1) (ne_op e2) h3 h4
    · exact (h.ents i f q3).phiE (po i q2) fun j _ => hs j
  · rw [hlen]
    rcases hcl (f := f) with rfl | hl
    · cases hq
    rcases get i f hf hl with ⟨rfl, rfl⟩ | ⟨_, q2, q3⟩
    · cases hq
    · exact h.eids i f q3 q hq
  · have mixed : ∀ {i : Nat} {f : Ent T.U} {x z : Addr}, i ≠ j → i ≠ k → H[i]? = some f → f.live = true → At (φ' k) x → At (φ' i) z → x.block ≠ z.block := by
      intro i f x z u1 u2 u3 u4 u5 u6
      rw [po i u2] at u6
      rcases hatk u5 with hx | ⟨z', hz', he⟩
      · exact h.apart k i _ _ hk u3 rfl u4 (Ne.symm u2) x z hx u6
      · rw [← he]; exact h.apart j i _ _ hj u3 rfl u4 (Ne.symm u1) z' z hz' u6
    rcases get i f hf hl with ⟨rfl, rfl⟩ | ⟨q1, q2, q3⟩ <;> rcases get i' f' hf' hl' with ⟨rfl, rfl⟩ | ⟨u1, u2, u3⟩
    · exact absurd rfl hne
    · exact mixed u1 u2 u3 hl' hz hz'
    · exact (mixed q1 q2 q3 hl hz' hz).symm
    · rw [po i q2] at hz; rw [po i' u2] at hz'; exact h.apart i i' _ _ q3 u3 hl hl' hne z z' hz hz'
theorem closeAt_sim {k : Nat} (h : Sim T w0 S0 ⟨F, H⟩ F' w S φ) : ∃ φ', Sim T w0 S0 ⟨F, closeAt T H k⟩ F' w S φ' ∧ (∀ i, RSame (φ' i) (φ i)) ∧ (closeAt T H k).length = H.length := by
  unfold closeAt
  split
  · rename_i hk
    split
    · rename_i hc
      split
      · rename_i hn hp
        obtain ⟨φ', h1, h2⟩ := h.closeD hk hc hn hp
        exact ⟨φ', h2, h1, by rw [goneL_len]; simp⟩
      · exact ⟨φ, h, fun _ => .of rfl, rfl⟩
    · exact ⟨φ, h, fun _ => .of rfl, rfl⟩
  · rename_i hk
    split
    · rename_i hj
      split
      · rename_i hb hy
        rw [Bool.and_eq_true, Bool.not_eq_true'] at hb
        have := Nat.eq_of_beq_eq_true hb.1; subst this
        obtain ⟨φ', h1, h2⟩ := h.closeP hk hj (fun e => by subst e; simp at hb) hy
        exact ⟨φ', h2, h1, by simp⟩
      · exact ⟨φ, h, fun _ => .of rfl, rfl⟩
    · exact ⟨φ, h, fun _ => .of rfl, rfl⟩
  · exact ⟨φ, h, fun _ => .of rfl, rfl⟩
theorem closeAt_sound {k : Nat} (h : Stands T w0 S0 ⟨F, H⟩ F' w) : Stands T w0 S0 ⟨F, closeAt T H k⟩ F' w := by
  obtain ⟨S, φ, h⟩ := h
  obtain ⟨φ', h', _⟩ := closeAt_sim (k := k) h
  exact ⟨S, φ', h'⟩
theorem closeL_sound : ∀ (l : List Nat) {H : List (Ent T.U)}, Stands T w0 S0 ⟨F, H⟩ F' w → Stands T w0 S0 ⟨F, closeL T l H⟩ F' w
  | [], H, h => h
  | k :: r, H, h => closeL_sound r (closeAt_sound h)
theorem VRL.phiS {as : List (AV T.U)} {vs : List Value} (h : VRL T w S φ as vs) (hi : ∀ i ∈ idsL as, RSame (φ' i) (φ i)) : VRL T w S φ' as vs := by
  have := VRL.renS T (ρ := id) (φ' := φ') hi h
  rwa [renL_id] at this
theorem Sim.closeL : ∀ (l : List Nat) {H : List (Ent T.U)} {φ : Nat → RA}, Sim T w0 S0 ⟨F, H⟩ F' w S φ → ∃ φ', Sim T w0 S0 ⟨F, closeL T l H⟩ F' w S φ' ∧ (∀ i, RSame (φ' i) (φ i)) ∧ (Go.X.closeL T l H).length = H.length
  | [], H, φ, h => ⟨φ, h, fun _ => .of rfl, rfl⟩
  | k :: r, H, φ, h => by
    obtain ⟨φ1, h1, h2, h3⟩ := closeAt_sim (k := k) h
    obtain ⟨φ2, h4, h5, h6⟩ := Sim.closeL r h1
    exact ⟨φ2, h4, fun i => (h5 i).trans (h2 i), h6.trans h3⟩
/-- a cell's list does not change any more. -/
theorem DC.frz {e : TypeId} {c : Cell T.U} {v : Value} (h : DC T w S e c v) (hS : ∀ b ∈ S', b ∈ S) (hb : ∀ b ∈ cblk T e c v, b ∈ S ∧ b ∉ S') : CellR T w S' c v := by
  obtain ⟨t, x⟩ := c
  cases t with
  | list t =>
    cases hez : Nat.beq e 0 with
    | true => exact CR.sub0 (h.1 (Nat.eq_of_beq_eq_true hez)) hS
    | false =>
    obtain ⟨B, ad, cap, vals, rfl, h1, h2, h3⟩ := h.2 (beq0 hez)
    have hb' : ∀ a, ad = some a → a.block ∈ S ∧ a.block ∉ S' := fun a ha => hb _ (by subst ha; simp [cblk, hez, blks])
    have := row_cr (T := T) (w := w) (S := S) (S' := S') (φ := fun _ => ⟨ad, List.length (α := den T.U t) x, cap, []⟩) (i := 0) (e := e) (t := t) (xs := x) ⟨B, vals, h1, rfl, h2, h3, fun a ha => (hb' a ha).1⟩ hS fun a ha => (hb' a ha).2
    exact this
  | _ => exact CR.sub0 h hS
/-- such a row, closed, whose lists don't change any more: a row of typed things. -/
theorem Sim.seal1 (h : Sim T w0 S0 ⟨F, H⟩ F' w S φ) (hF : ∀ i a, F.get T i = some a → notEp a = true) {k : Nat} {e : TypeId} {d : Nat} {fe : List TypeId} {xs : List (T.U d)} (hk : H[k]? = some (.drow e d fe xs none)) :
    ∃ S' φ', Sim T w0 S0 ⟨F, H.set k (.row e (.user d) xs)⟩ F' w S' φ' := by
  obtain ⟨B, vals, o1, o2, o3, o4, o5⟩ := h.ents k _ hk
  have hkl := (List.getElem?_eq_some_iff.1 hk).1
  let S' := S.filter fun b => !(φ k).xs.contains b || (blks (φ k).ad).contains b
  let φ' : Nat → RA := fun i => if i = k then ⟨(φ k).ad, (φ k).n, (φ k).cap, []⟩ else φ i
  have pk : φ' k = ⟨(φ k).ad, (φ k).n, (φ k).cap, []⟩ := if_pos rfl
  have po : ∀ i, i ≠ k → φ' i = φ i := fun i hi => if_neg hi
  have hs : ∀ i, RSame (φ' i) (φ i) := fun i => by
    by_cases he : i = k
    · subst he; rw [pk]; exact ⟨rfl, rfl, rfl⟩
    · rw [po i he]; exact .of rfl
  have hsub : ∀ b ∈ S', b ∈ S := fun b hb => (List.mem_filter.1 hb).1
  have hin : ∀ {b}, b ∈ S → (b ∉ (φ k).xs ∨ ∃ a, (φ k).ad = some a ∧ a.block = b) → b ∈ S' := fun {b} hb hor => by
    refine List.mem_filter.2 ⟨hb, ?_⟩
    rcases hor with h1 | ⟨a, h1, h2⟩
    · have : (φ k).xs.contains b = false := by
        cases hq : (φ k).xs.contains b with
        | false => rfl
        | true => exact absurd (List.contains_iff_mem.1 hq) h1
      rw [this]; rfl
    · have : (blks (φ k).ad).contains b = true := List.contains_iff_mem.2 (by rw [h1, ← h2]; simp [blks])
      rw [this, Bool.or_true]
  have hroot : ∀ {b}, b ∈ S' → b ∈ (φ k).xs → ∃ a, (φ k).ad = some a ∧ a.block = b := fun {b} hb hx => by
    have := (List.mem_filter.1 hb).2
    rw [List.contains_iff_mem.2 hx, Bool.not_true, Bool.false_or] at this
    have := List.contains_iff_mem.1 this
    unfold blks at this
    split at this
    · rename_i a ha
      exact ⟨a, ha, (List.mem_singleton.1 this).symm⟩
    · cases this
  have get : ∀ (i : Nat) (f : Ent T.U), (H.set k (.row e (.user d) xs))[i]? = some f → (i = k ∧ f = .row e (.user d) xs) ∨ (i ≠ k ∧ H[i]? = some f) := by
    intro i f hf
    by_cases he : i = k
    · subst he; rw [List.getElem?_set_self hkl] at hf; exact .inl ⟨rfl, (Option.some.inj hf).symm⟩
    · rw [List.getElem?_set_ne (Ne.symm he)] at hf; exact .inr ⟨he, hf⟩
  have hoff : ∀ {i f a}, i ≠ k → H[i]? = some f → f.live = true → At (φ i) a → a.block ∈ S' := fun {i f a} hi hf hl ha =>
    hin (liveAt h hf hl ha) (.inl fun hx => h.apart k i _ f hk hf rfl hl (Ne.symm hi) ⟨a.block, 0, none⟩ a (.inr hx) ha rfl)
  have hatk : ∀ {a}, At (φ' k) a → (φ k).ad = some a := fun {a} ha => by
    rw [pk] at ha
    rcases ha with ha | ha
    · exact ha
    · cases ha
  refine ⟨S', φ', fun i a ha => ?_, fun i a ha => ⟨fun j hj => by simpa using (h.ids i a ha).1 j hj, ?_⟩, h.chg, fun b hb => h.own b (hsub b hb), fun b hb q1 q2 => ?_, fun i f hf hl a ha => ?_, fun q r hq => ⟨(hs q).trans (h.pins q r hq).1, by simpa using (h.pins q r hq).2⟩, fun i f hf => ?_, fun i f hf j hj => ?_, fun i j f f' hf hf' hl hl' hij a b ha hb => ?_⟩
  · obtain ⟨v, h1, h2⟩ := h.fr i a ha
    exact ⟨v, h1, (h2.chg T (Chg.refl [] w) (by simp) fun b hb => .inl (hsub b hb)).phiS fun j _ => hs j⟩
  · have := hF i a ha
    cases a <;> first | trivial | cases this
  · refine hin (h.ex b hb q1 q2) (.inl fun hx => ?_)
    rcases (h.lives k _ hk rfl ⟨b, 0, none⟩ (.inr hx)).2 with hm | hm
    · exact q1 hm
    · have hm : w0.heap.size ≤ b := hm
      omega
  · rcases get i f hf with ⟨rfl, rfl⟩ | ⟨q1, q2⟩
    · have ha := hatk ha
      exact ⟨hin (o4 a ha) (.inr ⟨a, ha, rfl⟩), (h.lives i _ hk rfl a (.inl ha)).2⟩
    · rw [po i q1] at ha; exact ⟨hoff q1 q2 hl ha, (h.lives i f q2 hl a ha).2⟩
  · rcases get i f hf with ⟨rfl, rfl⟩ | ⟨q1, q2⟩
    · refine ⟨B, vals, by rw [pk]; exact o1, by rw [pk]; exact o2, o3, ⟨?_, fun j c v h1 h2 => ?_⟩, fun a ha => ?_⟩
      · rw [o1.len, o2]; exact flatMap_len' (f := flat T (.user d)) (sz := T.size d) (fun y => T.len d y) xs
      · obtain ⟨g1, g2⟩ := o5.cl j c v h1 h2 (fun q => q)
        refine g1.frz hsub fun b hb => ⟨liveAt h hk rfl (a := ⟨b, 0, none⟩) (.inr (g2 b hb).1), fun hm => ?_⟩
        obtain ⟨a, ha, hab⟩ := hroot hm (g2 b hb).1
        exact (g2 b hb).2 a ha hab
      · rw [pk] at ha; exact hin (o4 a ha) (.inr ⟨a, ha, rfl⟩)
    · exact ((h.ents i f q2).chg T (Chg.refl [] w) (by simp) (fun b hb => .inl (hsub b hb)) fun hl a ha => ⟨by simp, hoff q1 q2 hl ha⟩).phiE (po i q1) fun j _ => hs j
  · rw [List.length_set]
    rcases get i f hf with ⟨rfl, rfl⟩ | ⟨q1, q2⟩
    · cases hj
    · exact h.eids i f q2 j hj
  · rcases get i f hf with ⟨rfl, rfl⟩ | ⟨q1, q2⟩ <;> rcases get j f' hf' with ⟨rfl, rfl⟩ | ⟨u1, u2⟩
    · exact absurd rfl hij
    · rw [po j u1] at hb; exact h.apart i j _ f' hk u2 rfl hl' hij a b (.inl (hatk ha)) hb
    · rw [po i q1] at ha; exact h.apart i j f _ q2 hk hl rfl hij a b ha (.inl (hatk hb))
    · rw [po i q1] at ha; rw [po j u1] at hb; exact h.apart i j f f' q2 u2 hl hl' hij a b ha hb
def noEpF (F : AF T) : Bool := F.all fun p => notEp p.2
theorem noEpF_spec : ∀ {F : AF T}, noEpF F = true → ∀ i a, F.get T i = some a → notEp a = true
  | [], _, i, a, h => by simp [AF.get] at h
  | (j, b) :: r, hF, i, a, h => by
    unfold noEpF at hF
    rw [List.all_cons, Bool.and_eq_true] at hF
    simp only [AF.get] at h
    split at h
    · simp only [Option.some.injEq] at h; subst h; exact hF.1
    · exact noEpF_spec (F := r) hF.2 i a h
def sealAt (H : List (Ent T.U)) (k : Nat) : List (Ent T.U) := match H[k]? with | some (.drow e d _ xs none) => H.set k (.row e (.user d) xs) | _ => H
def sealL : List Nat → List (Ent T.U) → List (Ent T.U)
  | [], H => H
  | k :: r, H => sealL r (sealAt H k)
theorem sealL_sound (hF : ∀ i a, F.get T i = some a → notEp a = true) : ∀ (l : List Nat) {H : List (Ent T.U)}, Stands T w0 S0 ⟨F, H⟩ F' w → Stands T w0 S0 ⟨F, sealL l H⟩ F' w
  | [], H, h => h
  | k :: r, H, h => by
    refine sealL_sound hF r ?_
    unfold sealAt
    split
    · rename_i hk
      obtain ⟨S, φ, h⟩ := h
      obtain ⟨S', φ', h'⟩ := h.seal1 hF hk
      exact ⟨S', φ', h'⟩
    · exact h
/-- what is open is closed (1); rows of structs become rows of typed things (2). -/
def dzS : Nat → St T → St T
  | 0, st => st
  | 1, st => ⟨st.F, closeL T (List.range st.H.length) st.H⟩
  | _, st => match noEpF st.F with | true => ⟨st.F, sealL (List.range st.H.length) (closeL T (List.range st.H.length) st.H)⟩ | false => st
theorem dzS_sound : ∀ (m : Nat) {st : St T}, Stands T w0 S0 st F' w → Stands T w0 S0 (dzS m st) F' w
  | 0, _, h => h
  | 1, ⟨F, H⟩, h => closeL_sound _ h
  | _ + 2, ⟨F, H⟩, h => by
    cases hF : noEpF F with
    | true => simp only [dzS, hF]; exact sealL_sound (noEpF_spec hF) _ (closeL_sound _ h)
    | false => simp only [dzS, hF]; exact h
end
end Go.X

/- Rows of structs whose lists lie in blocks of their own: they are made, indexed, loaded of, stored into. Nothing here is about one program. -/
namespace Go.X
open Go.RowKit Go.V

section
variable {T : Tab} (P : Program) (C : Ctx T) {R : Type}
def cellScal : AV T.U → Bool | .cell c => c.t.scal | _ => false
def noList : AV T.U → Bool | .agg cs => cs.all cellScal | a => cellScal a
/-- what is loaded; what holds lists is opened ahead of it. -/
def loadD (t : TypeId) (H : List (Ent T.U)) (k sz a c : Nat) (e : TypeId) (d : Nat) (fe : List TypeId) (xs : List (T.U d)) (op : Option (Nat × List (AV T.U))) (K : AV T.U → List (Ent T.U) → Option R) : Option R :=
  match Nat.beq sz (T.size d) with
  | false => none
  | true => match op with
    | none => match loadC T P t ((elD T d xs a).map .cell) c with
      | some v => match noList v with
        | true => if a < xs.length then K v H else none
        | false => match loadC T P t (openCs T fe (elD T d xs a) H.length).1 c with
          | some u => (match notEp u with | true => if a < xs.length then K u (openH T H k e d fe xs a) else none | false => none)
          | none => none
      | none => none
    | some (b, cs) => match loadC T P t cs c with
      | some u => (match notEp u with | true => if a = b then K u H else none | false => none)
      | none => none
def storeD (t : TypeId) (H : List (Ent T.U)) (k sz a c : Nat) (e : TypeId) (d : Nat) (fe : List TypeId) (xs : List (T.U d)) (op : Option (Nat × List (AV T.U))) (v : AV T.U) (K : List (Ent T.U) → Option R) : Option R :=
  match Nat.beq sz (T.size d) && fits T P t c (T.size d) v with
  | false => none
  | true => match op with
    | none => if a < xs.length then K ((openH T H k e d fe xs a).set k (.drow e d fe xs (some (a, putsA T (openCs T fe (elD T d xs a) H.length).1 c (cellsA T v))))) else none
    | some (b, cs) => if a = b then K (H.set k (.drow e d fe xs (some (b, putsA T cs c (cellsA T v))))) else none
variable (T) in
def zeroC (t : Ty) (v : Value) : Option (Cell T.U) :=
  match t, v with
  | .list t0, .slice none 0 0 => some ⟨.list t0, []⟩
  | _, v => match cellOf T (ofV1 T v) with | some c => (match c.t.scal with | true => some c | false => none) | none => none
variable (T) in
def zeroCs : List Ty → List Value → Option (List (Cell T.U))
  | [], [] => some []
  | t :: ts, v :: vs => match zeroC T t v, zeroCs ts vs with | some c, some l => some (c :: l) | _, _ => none
  | _, _ => none
def makeD (d : Nat) (fe : List TypeId) (t : TypeId) (H : List (Ent T.U)) (l c : Int) (K : AV T.U → List (Ent T.U) → Option R) : Option R :=
  match eInfo P t with
  | some (e, sz, by_, zc) => match Nat.beq sz (T.size d), zeroCs T (tysOf T d) zc.toList with
    | true, some z => match T.pack d z with
      | some x0 => if 0 ≤ l ∧ l ≤ c ∧ by_ * c.toNat ≤ 281474976710656 ∧ c ≤ 9223372036854775807 then K (.own H.length) (H ++ [.drow e d fe (List.replicate l.toNat x0) none]) else none
      | none => none
    | _, _ => none
  | none => none
def idxD (n : Nat) (j : Int) (x : Nat → Option R) : Option R := if 0 ≤ j ∧ j < ((n : Nat) : Int) then x j.toNat else none
/-- an operation on such a row; none: it is no such operation. -/
def stepR (o : Oper) (st : St T) (K : St T → Option R) : Option (Option R) :=
  match o.op with
  | .makeSlice t x y => match C.dr t with
    | some (d, fe) => some (match aev T st.F x, aev T st.F y with | some (.cell ⟨.int _, l⟩), some (.cell ⟨.int _, c⟩) => makeD P d fe t st.H l c (fun a H => K ⟨updA T st.F o.dst a, H⟩) | _, _ => none)
    | none => none
  | .indexAddr t x y => match aev T st.F x with
    | some (.own k) => match st.H[k]? with
      | some (.drow _ d _ xs _) => some (match aev T st.F y, elemIs T P t (.user d) with
        | some (.cell ⟨.int _, j⟩), true => idxD xs.length j fun a => K ⟨updA T st.F o.dst (.eptr k (T.size d) a 0), st.H⟩
        | _, _ => none)
      | _ => none
    | _ => none
  | .load t x => match aev T st.F x with
    | some (.eptr k sz a c) => match st.H[k]? with
      | some (.drow e d fe xs op) => some (loadD P t st.H k sz a c e d fe xs op fun v H => K ⟨updA T st.F o.dst v, H⟩)
      | _ => none
    | _ => none
  | .store t x y => match aev T st.F x with
    | some (.eptr k sz a c) => match st.H[k]? with
      | some (.drow e d fe xs op) => some (match o.dst, aev T st.F y with | none, some v => storeD P t st.H k sz a c e d fe xs op v fun H => K ⟨st.F, H⟩ | _, _ => none)
      | _ => none
    | _ => none
  | _ => none
end
section
variable {T : Tab} {P : Program} {C : Ctx T} {w w' : World} {S S' : List Nat} {φ φ' : Nat → RA} {w0 : World} {S0 : Ow} {F : AF T} {H : List (Ent T.U)} {F' : PF}
variable {ops : Array Oper} {Q : Exit → Act → World → Prop} {k n : Nat} {ds : List Deferred} {o : Oper}
theorem idxD_some {R : Type} {r : R} {m : Nat} {j : Int} {x : Nat → Option R} (h : idxD m j x = some r) : (0 ≤ j ∧ j < ((m : Nat) : Int)) ∧ x j.toNat = some r := iteOpt h
theorem openH_get {i : Nat} {e0 : Ent T.U} (hi : H[i]? = some e0) (e : TypeId) (d : Nat) (fe : List TypeId) (xs : List (T.U d)) (a : Nat) : (openH T H i e d fe xs a)[i]? = some (.drow e d fe xs (some (a, (openCs T fe (elD T d xs a) H.length).1))) := by
  have hil := (List.getElem?_eq_some_iff.1 hi).1
  unfold openH
  rw [List.getElem?_append_left (by simpa using hil), List.getElem?_set_self hil]
/-- an element's cells, where they lie. -/
theorem drow_seg (h : Sim T w0 S0 ⟨F, H⟩ F' w S φ) {i : Nat} {e : TypeId} {d : Nat} {fe : List TypeId} {xs : List (T.U d)} {op : Option (Nat × List (AV T.U))} (hi : H[i]? = some (.drow e d fe xs op)) {a : Nat} (ha : a < xs.length) :
    ∃ g c B vals, (φ i).ad = some ⟨g, 0, none⟩ ∧ (φ i).n = xs.length ∧ Own w B e (T.size d) (φ i).ad xs.length (φ i).cap vals ∧ Blk w g c e ∧ c.size = (φ i).cap * T.size d ∧ c.toList.take (xs.length * T.size d) = vals ∧ g ∈ S ∧ B ≤ g ∧ B ≤ w.heap.size ∧ xs.length ≤ (φ i).cap ∧ (φ i).cap ≤ maxLen ∧ DRel T w S φ (φ i) d fe xs op vals ∧
      vals.length = xs.length * T.size d ∧ a * T.size d + T.size d ≤ xs.length * T.size d ∧ Rg w (some ⟨g, 0 + a * T.size d, none⟩) ((vals.drop (a * T.size d)).take (T.size d)) := by
  obtain ⟨B, vals, h1, h2, h3, h4, h5⟩ := h.ents i _ hi
  rw [h2] at h1
  rcases h1.cases with ⟨_, hn, _⟩ | ⟨c, had, hB, hb, hle, hm, hs, ht⟩
  · omega
  · refine ⟨bk (φ i).ad, c, B, vals, had, h2, h1, hb, hs, ht, h4 _ had, hB, h3, hle, hm, h5, h1.len, ?_, ?_⟩
    · rw [← Nat.succ_mul]; exact Nat.mul_le_mul_right _ ha
    · have hr := h1.rg
      rw [had] at hr
      exact hr.sub (a * T.size d) (T.size d) _ (fun _ => rfl)
/-- cells that lie somewhere, loaded. -/
theorem load_rg2 {Z : Prop} {rd : List Nat} {t : TypeId} {x : Operand} (hd : dec ops k n F' = some o) (hop : o.op = .load t x) {b o0 c : Nat} {cs : List (AV T.U)} {vals : List Value} {a : AV T.U} (hx : ev F' x = some (.pointer (some ⟨b, o0 + c, none⟩)))
    (hr : ∀ w1, Chg S w w1 → Same φ rd w w1 → Rg w1 (some ⟨b, o0, none⟩) vals) (hv : VRL T w S φ cs vals) (hl : loadC T P t cs c = some a)
    (K : ∀ v, QR P F' o S φ rd w v → VR T w S φ a v → (∀ i ∈ a.ids, i ∈ idsL cs) → Z) : Z := by
  obtain ⟨i, d, hi, hu, hc⟩ := loadC_spec hl
  have hok : ∀ i ∈ a.ids, i ∈ idsL cs := cutA_ids hc
  have hdl := decLoad_of hd hop
  rw [evD_of hx] at hdl
  cases hag : aggD d with
  | false =>
    rw [hag] at hc
    obtain ⟨v, h1, h2⟩ := hv.get T (show cs[c]? = some a from hc)
    have hs : scalar P t = true := by unfold scalar; rw [hu]; cases d <;> simp_all [aggD]
    refine K v (QR.load1 hd hdl hs v ?_) h2 hok
    exact fun w1 hc hsm => (hr w1 hc hsm c v h1).2
  | true =>
    rw [hag] at hc
    unfold cutA at hc
    simp only at hc
    split at hc
    · rename_i hle
      simp only [Option.some.injEq] at hc; subst hc
      have hs : scalar P t = false := by unfold scalar; rw [hu]; cases d <;> simp_all [aggD]
      have hlen := hv.len T
      have hle := Nat.le_of_ble_eq_true hle
      refine K _ (QR.loadA (ad := some ⟨b, o0, none⟩) (j := c) (cs := vals) (sz := i.size) hd hr hdl hs (by rw [hu]; rfl) (by unfold sizeT; rw [hi]; rfl) ((vals.drop c).take i.size) (by rw [List.length_take, List.length_drop]; omega) rfl) ⟨_, rfl, ?_⟩ hok
      simpa using (hv.drop T c).take T i.size
    · cases hc
theorem vrl_of : ∀ (as : List (AV T.U)) (vs : List Value), as.length = vs.length → (∀ (f : Nat) (x : AV T.U), as[f]? = some x → ∃ v, vs[f]? = some v ∧ VR T w S φ x v) → VRL T w S φ as vs
  | [], [], _, _ => trivial
  | [], _ :: _, h, _ => by simp at h
  | _ :: _, [], h, _ => by simp at h
  | x :: r, v :: s, hl, hx => by
    obtain ⟨v', h1, h2⟩ := hx 0 x rfl
    simp only [List.getElem?_cons_zero, Option.some.injEq] at h1; subst h1
    exact ⟨h2, vrl_of r s (by simpa using hl) fun f z hz => by simpa using hx (f + 1) z (by simpa using hz)⟩
/-- cells of which some are seen as they are. -/
def mixC : List (Cell T.U) → List Value → List (AV T.U)
  | c :: r, v :: s => (match c.t.scal with | true => .cell c | false => .raw v) :: mixC r s
  | _, _ => []
theorem mixC_rel : ∀ {cs : List (Cell T.U)} {vs : List Value}, cs.length = vs.length → (∀ (f : Nat) (c : Cell T.U) (v : Value), cs[f]? = some c → vs[f]? = some v → c.t.scal = true → CellR T w S c v) → VRL T w S φ (mixC cs vs) vs
  | [], [], _, _ => trivial
  | [], _ :: _, h, _ => by simp at h
  | _ :: _, [], h, _ => by simp at h
  | c :: r, v :: s, hl, hx => by
    refine ⟨?_, mixC_rel (by simpa using hl) fun f c' v' h1 h2 => hx (f + 1) c' v' (by simpa using h1) (by simpa using h2)⟩
    cases hc : c.t.scal with
    | true => exact hx 0 c v rfl rfl hc
    | false => show VR T w S φ (.raw v) v; rw [VR]
theorem mixC_get : ∀ {cs : List (Cell T.U)} {vs : List Value}, cs.length = vs.length → (mixC cs vs).length = cs.length ∧ (∀ (f : Nat) (c : Cell T.U), cs[f]? = some c → c.t.scal = true → (mixC cs vs)[f]? = some (.cell c)) ∧ idsL (mixC cs vs) = []
  | [], [], _ => ⟨rfl, fun f c h => by simp at h, rfl⟩
  | [], _ :: _, h => by simp at h
  | _ :: _, [], h => by simp at h
  | c :: r, v :: s, hl => by
    obtain ⟨h1, h2, h3⟩ := mixC_get (cs := r) (vs := s) (by simpa using hl)
    refine ⟨by simp [mixC, h1], fun f c' hf hs => ?_, ?_⟩
    · cases f with
      | zero => simp only [List.getElem?_cons_zero, Option.some.injEq] at hf; subst hf; simp [mixC, hs]
      | succ f => simpa [mixC] using h2 f c' (by simpa using hf) hs
    · rw [mixC, idsL, h3]
      cases c.t.scal <;> rfl
theorem mixC_load {t : TypeId} {cs : List (Cell T.U)} {vs : List Value} (hl : cs.length = vs.length) {c : Nat} {v : AV T.U} (h : loadC T P t (cs.map .cell) c = some v) (hn : noList v = true) : loadC T P t (mixC cs vs) c = some v := by
  obtain ⟨m1, m2, _⟩ := mixC_get hl
  unfold loadC at h ⊢
  split at h <;> try (cases h; done)
  rename_i i d hi hu
  unfold cutA at h ⊢
  cases hag : aggD d with
  | false =>
    rw [hag] at h
    simp only at h ⊢
    rw [List.getElem?_map] at h
    cases hc : cs[c]? with
    | none => rw [hc] at h; cases h
    | some c0 =>
      rw [hc] at h
      simp only [Option.map_some, Option.some.injEq] at h
      subst h
      exact m2 c c0 hc hn
  | true =>
    rw [hag] at h
    simp only [List.length_map] at h ⊢
    rw [m1]
    split at h <;> try (cases h; done)
    rename_i hle
    simp only [Option.some.injEq] at h; subst h
    simp only [Option.some.injEq]
    congr 1
    apply List.ext_getElem?
    intro j
    simp only [List.getElem?_take, List.getElem?_drop, List.getElem?_map]
    split
    · rename_i hj
      cases hc : cs[c + j]? with
      | none =>
        rw [List.getElem?_eq_none (by rw [m1]; exact List.getElem?_eq_none_iff.1 hc)]; rfl
      | some c0 =>
        have hs : c0.t.scal = true := by
          have := List.all_eq_true.1 hn (.cell c0) (List.mem_iff_getElem?.2 ⟨j, by simp only [List.getElem?_take, if_pos hj, List.getElem?_drop, List.getElem?_map, hc]; rfl⟩)
          exact this
        rw [m2 _ c0 hc hs]; rfl
    · rfl
theorem scal_DC {c : Cell T.U} {v : Value} {e : TypeId} (hs : c.t.scal = true) (h : DC T w S e c v) : CellR T w S c v := by
  obtain ⟨t, x⟩ := c
  cases t <;> first | (cases hs; done) | exact h
theorem open_vrl {φ : Nat → RA} {d : Nat} {fe : List TypeId} {xs : List (T.U d)} {b : Nat} {cs : List (AV T.U)} {vals : List Value} {r : RA} (h : DRel T w S φ r d fe xs (some (b, cs)) vals) (hvl : vals.length = xs.length * T.size d) : VRL T w S φ cs ((vals.drop (b * T.size d)).take (T.size d)) := by
  obtain ⟨hb, hl, hx⟩ := h.opn _ _ rfl
  have hle : b * T.size d + T.size d ≤ xs.length * T.size d := by rw [← Nat.succ_mul]; exact Nat.mul_le_mul_right _ hb
  refine vrl_of _ _ (by simp; omega) fun f x hf => ?_
  have hfl : f < T.size d := by have := (List.getElem?_eq_some_iff.1 hf).1; omega
  rw [List.getElem?_take, if_pos hfl, List.getElem?_drop]
  exact hx f x hf
theorem loadD_wr {R : Type} {r : R} {t : TypeId} {x : Operand} (hd : dec ops k n F' = some o) (hop : o.op = .load t x) {i sz a c : Nat} {e : TypeId} {d : Nat} {fe : List TypeId} {xs : List (T.U d)} {op : Option (Nat × List (AV T.U))} (hx : aev T F x = some (.eptr i sz a c)) (hi : H[i]? = some (.drow e d fe xs op))
    {K0 : AV T.U → List (Ent T.U) → Option R} (hs : loadD P t H i sz a c e d fe xs op K0 = some r) (h : Sim T w0 S0 ⟨F, H⟩ F' w S φ) (HK : ∀ v H1, K0 v H1 = some r → Kont P ops Q (k + 1) n ds w0 S0 (⟨updA T F o.dst v, H1⟩ : St T)) : WR P ops Q k n ds F' w := by
  unfold loadD at hs
  split at hs <;> try (cases hs; done)
  rename_i hsz
  have := Nat.eq_of_beq_eq_true hsz; subst this
  obtain ⟨X, h1, g0, h2, rfl⟩ := aev_rel h.fr hx
  have opened : ∀ {H : List (Ent T.U)} {φ : Nat → RA} {b : Nat} {cs : List (AV T.U)} {u : AV T.U}, Sim T w0 S0 ⟨F, H⟩ F' w S φ → (φ i).ad = some ⟨g0, 0, none⟩ → H[i]? = some (.drow e d fe xs (some (b, cs))) → a = b → loadC T P t cs c = some u → notEp u = true → K0 u H = some r → WR P ops Q k n ds F' w := by
    intro H φ b cs u h h2 hi hab hl hne hK
    subst hab
    obtain ⟨_, _, _, _, hdr⟩ := h.ents i _ hi
    have hb := (hdr.2.2.opn _ _ rfl).1
    obtain ⟨g, cc, B, vals, a1, a2, a3, a4, a5, a6, a7, a8, a9, a10, a11, a12, a13, a14, a15⟩ := drow_seg h hi hb
    rw [h2] at a1; simp only [Option.some.injEq, Addr.mk.injEq, and_true] at a1; subst a1
    refine load_rg2 (rd := [i]) hd hop (b := g0) (o0 := 0 + a * T.size d) (c := c) (by rw [h1, Nat.add_assoc]) (fun w1 _ hsm => Rg.same a15 (show w1.heap[g0]? = w.heap[g0]? from hsm i (by simp) ⟨g0, 0, none⟩ h2 a4.lt)) (open_vrl a12 a13) hl fun v q1 q2 q3 => ?_
    exact val_wr hd (q1 w (Chg.refl _ _) fun _ _ _ _ _ => rfl) h q2 (okA_notEp hne fun j hj => h.eids i _ hi j (q3 j hj)) (HK _ _ hK)
  split at hs
  · split at hs <;> try (cases hs; done)
    rename_i v hl
    split at hs
    · rename_i hn
      obtain ⟨ha, hK⟩ := iteOpt hs
      obtain ⟨g, cc, B, vals, a1, a2, a3, a4, a5, a6, a7, a8, a9, a10, a11, a12, a13, a14, a15⟩ := drow_seg h hi ha
      rw [h2] at a1; simp only [Option.some.injEq, Addr.mk.injEq, and_true] at a1; subst a1
      have hxa : xs[a]? = some (xs.getD a (T.d d)) := getD_get (T.d d) ha
      have hlen : (elD T d xs a).length = ((vals.drop (a * T.size d)).take (T.size d)).length := by
        unfold elD; rw [T.len, List.length_take, List.length_drop]; omega
      have hm := mixC_rel (w := w) (S := S) (φ := φ) hlen fun f c0 v0 q1 q2 q3 => by
        have hf : f < T.size d := by have := (List.getElem?_eq_some_iff.1 q1).1; unfold elD at this; rw [T.len] at this; exact this
        rw [List.getElem?_take, if_pos hf, List.getElem?_drop] at q2
        exact scal_DC q3 (a12.cl _ c0 v0 (by rw [at_range (T.len d) hxa hf]; exact q1) q2 fun q => q).1
      refine load_rg2 (rd := [i]) hd hop (b := g0) (o0 := 0 + a * T.size d) (c := c) (by rw [h1, Nat.add_assoc]) (fun w1 _ hsm => Rg.same a15 (show w1.heap[g0]? = w.heap[g0]? from hsm i (by simp) ⟨g0, 0, none⟩ h2 a4.lt)) hm (mixC_load hlen hl hn) fun u q1 q2 q3 => ?_
      rw [(mixC_get hlen).2.2] at q3
      refine val_wr hd (q1 w (Chg.refl _ _) fun _ _ _ _ _ => rfl) h q2 (okA_notEp ?_ fun j hj => by cases q3 j hj) (HK _ _ hK)
      cases v <;> first | rfl | cases hn
    · split at hs <;> try (cases hs; done)
      rename_i u hu
      split at hs <;> try (cases hs; done)
      rename_i hne
      obtain ⟨ha, hK⟩ := iteOpt hs
      obtain ⟨φ', hsm, h'⟩ := h.openD hi ha
      exact opened h' ((hsm i (List.getElem?_eq_some_iff.1 hi).1).1.trans h2) (openH_get hi e d fe xs a) rfl hu hne hK
  · split at hs <;> try (cases hs; done)
    rename_i u hu
    split at hs <;> try (cases hs; done)
    rename_i hne
    obtain ⟨hab, hK⟩ := iteOpt hs
    exact opened h h2 hi hab hu hne hK
theorem putsA_putL : ∀ (l cs : List (AV T.U)) (o0 : Nat), putsA T cs o0 l = putL cs o0 l
  | [], _, _ => rfl
  | a :: r, cs, o0 => by rw [putsA, putL, putsA_putL r]
theorem storeOpen_wr {t : TypeId} {x y : Operand} (hd : dec ops k n F' = some o) (hop : o.op = .store t x y) (hdst : o.dst = none) {i a c : Nat} {e : TypeId} {d : Nat} {fe : List TypeId} {xs : List (T.U d)} {cs : List (AV T.U)} {v0 : AV T.U} {H : List (Ent T.U)} {φ : Nat → RA} {g0 : Nat} (h1 : ev F' x = some (.pointer (some ⟨g0, 0 + (a * T.size d + c), none⟩))) (h2 : (φ i).ad = some ⟨g0, 0, none⟩) (hy : aev T F y = some v0) (hi : H[i]? = some (.drow e d fe xs (some (a, cs))))
    (hf : fits T P t c (T.size d) v0 = true) (h : Sim T w0 S0 ⟨F, H⟩ F' w S φ) (K : Kont P ops Q (k + 1) n ds w0 S0 (⟨F, H.set i (.drow e d fe xs (some (a, putsA T cs c (cellsA T v0))))⟩ : St T)) : WR P ops Q k n ds F' w := by
  obtain ⟨v, h3, h4⟩ := aev_rel h.fr hy
  obtain ⟨_, _, _, _, hdr⟩ := h.ents i _ hi
  obtain ⟨hb, hcl, _⟩ := hdr.2.2.opn _ _ rfl
  obtain ⟨g, carr, B, vals, a1, a2, a3, a4, a5, a6, a7, a8, a9, a10, a11, a12, a13, a14, a15⟩ := drow_seg h hi hb
  rw [h2] at a1; simp only [Option.some.injEq, Addr.mk.injEq, and_true] at a1; subst a1
  obtain ⟨ii, hii, f1, f2, f3, f4⟩ := fits_spec hf
  have hds := decStore_of hd hop hdst
  rw [evD_of h1, evD_of h3] at hds
  have hle2 : xs.length * T.size d ≤ carr.size := by rw [a5]; exact Nat.mul_le_mul_right _ a10
  have hst := stv_of hf h4 (c := carr) (p := 0 + a * T.size d) (by omega)
  rw [Nat.add_assoc] at hst
  have hcr := cellsA_rel f1 h4
  have hul : v.cells.toList.length = ii.size := by rw [← hcr.len T, f2]
  have hcl2 : c + (cellsA T v0).length ≤ T.size d := by rw [f2]; exact f3
  refine WR.store a4 hds _ hst fun w' hb' hc => K _ _ ⟨S, φ, h.upd hi rfl hc ?_ ⟨B, (puts carr (0 + (a * T.size d + c)) v.cells.toList).toList.take (xs.length * T.size d), ?_, a2, Nat.le_trans a9 hc.size, ?_, ?_⟩ ?_ ?_⟩
  · intro b hb; simp at hb; subst hb; exact ⟨_, .inl h2, rfl⟩
  · rw [h2, a2]
    exact Own.ofBlk hb' a8 a10 (by have := a11; unfold maxLen at this; omega) (by rw [puts_size]; exact a5) _ rfl
  · intro z hz
    rw [h2] at hz; simp only [Option.some.injEq] at hz; subst hz; exact a7
  · rw [puts_putL, putL_take, Nat.zero_add, a6]
    have hT : ∀ b ∈ [g0], b ∈ S := by intro b hb; simp at hb; subst hb; exact a7
    have hin : ∀ j, ¬ inOp T (T.size d) (some (a, cs)) j → (putL vals (a * T.size d + c) v.cells.toList)[j]? = vals[j]? := fun j hj => by
      rw [putL_get _ _ _ _ (by omega), if_neg (fun q => hj ⟨by omega, by omega⟩)]
    have hD := a12.chg (T := T) (S' := S) hc hT (fun b hb => .inl hb) fun b _ hne hm => by
      simp at hm; subst hm; exact hne _ h2 rfl
    refine ⟨fun j c1 v1 q1 q2 q3 => hD.cl j c1 v1 q1 (by rw [← hin j q3]; exact q2) q3, fun j j' c1 c2 v1 v2 hj q1 q2 q3 q4 q5 q6 => hD.ap j j' c1 c2 v1 v2 hj q1 (by rw [← hin j q3]; exact q2) q3 q4 (by rw [← hin j' q6]; exact q5) q6, fun a0 cs0 hq => ?_⟩
    simp only [Option.some.injEq, Prod.mk.injEq] at hq
    obtain ⟨rfl, rfl⟩ := hq
    refine ⟨hb, by rw [putsA_putL, putL_len]; exact hcl, fun f x hx => ?_⟩
    rw [putsA_putL, putL_get _ _ _ _ (by omega)] at hx
    rw [putL_get _ _ _ _ (by omega)]
    split at hx
    · rename_i hfr
      rw [if_pos (by rw [hul]; omega), show a * T.size d + f - (a * T.size d + c) = f - c by omega]
      obtain ⟨v', g1, g2⟩ := hcr.get T hx
      exact ⟨v', g1, g2.chg T hc hT fun b hb => .inl hb⟩
    · rename_i hfr
      rw [if_neg (by rw [hul]; omega)]
      exact (hD.opn _ _ rfl).2.2 f x hx
  · intro j hj
    rcases putsA_ids (T := T) j hj with hj | hj
    · exact h.eids i _ hi j hj
    · rw [cellsA_ids f1] at hj; exact (aev_ok h hy).1 j hj
  · intro _ _ _ he; cases he
theorem storeD_wr {R : Type} {r : R} {t : TypeId} {x y : Operand} (hd : dec ops k n F' = some o) (hop : o.op = .store t x y) (hdst : o.dst = none) {i sz a c : Nat} {e : TypeId} {d : Nat} {fe : List TypeId} {xs : List (T.U d)} {op : Option (Nat × List (AV T.U))} {v0 : AV T.U} (hx : aev T F x = some (.eptr i sz a c)) (hy : aev T F y = some v0) (hi : H[i]? = some (.drow e d fe xs op))
    {K0 : List (Ent T.U) → Option R} (hs : storeD P t H i sz a c e d fe xs op v0 K0 = some r) (h : Sim T w0 S0 ⟨F, H⟩ F' w S φ) (HK : ∀ H1, K0 H1 = some r → Kont P ops Q (k + 1) n ds w0 S0 (⟨F, H1⟩ : St T)) : WR P ops Q k n ds F' w := by
  unfold storeD at hs
  split at hs <;> try (cases hs; done)
  rename_i hb
  rw [Bool.and_eq_true] at hb
  obtain ⟨hsz, hf⟩ := hb
  have := Nat.eq_of_beq_eq_true hsz; subst this
  obtain ⟨X, h1, g0, h2, rfl⟩ := aev_rel h.fr hx
  split at hs
  · obtain ⟨ha, hK⟩ := iteOpt hs
    obtain ⟨φ', hsm, h'⟩ := h.openD hi ha
    exact storeOpen_wr hd hop hdst h1 ((hsm i (List.getElem?_eq_some_iff.1 hi).1).1.trans h2) hy (openH_get hi e d fe xs a) hf h' (HK _ hK)
  · obtain ⟨hab, hK⟩ := iteOpt hs
    subst hab
    exact storeOpen_wr hd hop hdst h1 h2 hy hi hf h (HK _ hK)
theorem zeroC_rel {t : Ty} {v : Value} {c : Cell T.U} (h : zeroC T t v = some c) (e : TypeId) : DC T w S e c v ∧ cblk T e c v = [] := by
  have hz : ∀ {c : Cell T.U} {v : Value}, (match c.t, v with | .list _, .slice ad _ _ => blks ad | _, _ => ([] : List Nat)) = [] → cblk T e c v = [] := fun h => by unfold cblk; cases Nat.beq e 0; exact h; rfl
  unfold zeroC at h
  split at h
  · simp only [Option.some.injEq] at h; subst h
    exact ⟨⟨fun _ => CR.nilS, fun _ => ⟨0, none, 0, [], rfl, Own.nil _ _ _ _, Nat.zero_le _, CellsR.nilC⟩⟩, hz rfl⟩
  · split at h <;> try (cases h; done)
    rename_i c0 hc
    split at h <;> try (cases h; done)
    rename_i hs
    simp only [Option.some.injEq] at h; subst h
    have h1 : cellsOf T ([v].map (ofV1 T)) = some [c0] := by simp only [List.map_cons, List.map_nil, cellsOf, hc]
    have h2 := (cellsOf_ofV1 (w := w) (S := S) h1).2 0 c0 v rfl rfl
    obtain ⟨t, x⟩ := c0
    cases t <;> first | (cases hs; done) | exact ⟨h2, hz rfl⟩
theorem zeroCs_rel : ∀ {ts : List Ty} {vs : List Value} {cs : List (Cell T.U)}, zeroCs T ts vs = some cs → cs.length = vs.length ∧ ∀ (f : Nat) (c : Cell T.U) (v : Value) (e : TypeId), cs[f]? = some c → vs[f]? = some v → DC T w S e c v ∧ cblk T e c v = []
  | [], [], cs, h => by simp only [zeroCs, Option.some.injEq] at h; subst h; exact ⟨rfl, fun f c v e h => by simp at h⟩
  | [], _ :: _, _, h => by simp [zeroCs] at h
  | _ :: _, [], _, h => by simp [zeroCs] at h
  | t :: ts, v :: vs, cs, h => by
    unfold zeroCs at h
    split at h <;> try (cases h; done)
    rename_i c l h1 h2
    simp only [Option.some.injEq] at h; subst h
    obtain ⟨g1, g2⟩ := zeroCs_rel h2
    refine ⟨by simp [g1], fun f c' v' e q1 q2 => ?_⟩
    cases f with
    | zero => simp only [List.getElem?_cons_zero, Option.some.injEq] at q1 q2; subst q1; subst q2; exact zeroC_rel h1 e
    | succ f => exact g2 f c' v' e (by simpa using q1) (by simpa using q2)
theorem makeD_wr {R : Type} {r : R} {x y : Operand} {t : TypeId} (hd : dec ops k n F' = some o) (hop : o.op = .makeSlice t x y) {d : Nat} {fe : List TypeId} {k1 k2 : IntKind} {l c : Int} (hx : aev T F x = some (cI T k1 l)) (hy : aev T F y = some (cI T k2 c))
    {K0 : AV T.U → List (Ent T.U) → Option R} (hK0 : makeD P d fe t H l c K0 = some r) (h : Sim T w0 S0 ⟨F, H⟩ F' w S φ) (K : ∀ b H1, K0 b H1 = some r → Kont P ops Q (k + 1) n ds w0 S0 (⟨updA T F o.dst b, H1⟩ : St T)) : WR P ops Q k n ds F' w := by
  obtain ⟨X, h1, h2⟩ := aev_rel h.fr hx
  obtain ⟨Y, h3, h4⟩ := aev_rel h.fr hy
  have e1 := cint_rel h2; have e2 := cint_rel h4; subst e1; subst e2
  unfold makeD at hK0
  split at hK0 <;> try (cases hK0; done)
  rename_i e sz by_ zc he
  split at hK0 <;> try (cases hK0; done)
  rename_i z hsz hz
  have hsz := Nat.eq_of_beq_eq_true hsz; subst hsz
  split at hK0 <;> try (cases hK0; done)
  rename_i x0 hx0
  obtain ⟨⟨g1, g2, g3, g4⟩, hK⟩ := iteOpt hK0
  have hdm := decMake_of hd hop
  rw [evD_of h1, evD_of h3] at hdm
  obtain ⟨i, zv, _, _, _, _, _, _, hzs⟩ := eInfo_spec he
  refine WR.make hdm he l.toNat c.toNat (by omega) (by omega) (by omega) g3 (by omega) fun g w' hN => ?_
  have hown := Own.made (m := l.toNat) (m' := c.toNat) hN (by omega) (by omega)
  have hc0 : T.cells d x0 = z := T.packed _ _ _ hx0
  have hcell : ∀ j c1 v, ((List.replicate l.toNat x0).flatMap (T.cells d))[j]? = some c1 → ((madeCells zc (c.toNat * T.size d)).toList.take (l.toNat * T.size d))[j]? = some v → DC T w' (g :: S) (fe.getD (j % T.size d) 0) c1 v ∧ cblk T (fe.getD (j % T.size d) 0) c1 v = [] := by
    intro j c1 v h1 h2
    have hj := (List.getElem?_eq_some_iff.1 h1).1
    rw [flatMap_len' (T.len d), List.length_replicate] at hj
    rw [replicate_at (T.len d x0) _ _ hj, hc0] at h1
    rw [List.getElem?_take, if_pos hj] at h2
    refine (zeroCs_rel (w := w') (S := g :: S) hz).2 _ c1 v _ h1 ?_
    have hpos : 0 < T.size d := by
      rcases Nat.eq_zero_or_pos (T.size d) with h0 | h0
      · rw [h0] at hj; omega
      · exact h0
    rw [← hzs] at hpos
    have hlc : l.toNat * T.size d ≤ c.toNat * T.size d := Nat.mul_le_mul_right _ (by omega)
    unfold madeCells at h2
    simp only [Array.toList_map, Array.toList_range, List.getElem?_map] at h2
    rw [List.getElem?_range (by omega)] at h2
    simp only [Option.map_some, Option.some.injEq] at h2
    subst h2
    rw [← hzs, Array.getElem?_toList, Array.getElem?_eq_getElem (Nat.mod_lt _ hpos)]
    congr 1
    rw [getElem!_pos zc _ (Nat.mod_lt _ hpos)]
  have hadd := h.add (r := ⟨some ⟨g, 0, none⟩, l.toNat, c.toNat, []⟩) hN.chg hN.fresh hN.blk.lt (fun a ha => at_new ha) (e := .drow e d fe (List.replicate l.toNat x0) none)
    ⟨w.heap.size, _, by rw [setR_eq]; exact hown, by rw [setR_eq, List.length_replicate], hN.chg.size, fun a ha => by rw [setR_eq] at ha; simp only [Option.some.injEq] at ha; subst ha; simp,
      ⟨fun j c1 v q1 q2 _ => ⟨(hcell j c1 v q1 q2).1, fun b hb => (by rw [(hcell j c1 v q1 q2).2] at hb; cases hb)⟩, fun j j' c1 c2 v v' _ q1 q2 _ _ _ _ b hb => (by rw [(hcell j c1 v q1 q2).2] at hb; cases hb), fun a cs hq => (by cases hq)⟩⟩ (by intro j hj; cases hj)
  refine K _ _ hK _ _ ⟨_, _, hadd.slot (a := .own H.length) (by rw [VR, setR_eq]) ⟨by intro i hi; simp [AV.ids] at hi; subst hi; simp, trivial⟩⟩
theorem indexD_wr {t : TypeId} {x y : Operand} (hd : dec ops k n F' = some o) (hop : o.op = .indexAddr t x y) {i : Nat} {kk : IntKind} {j : Int} {e : TypeId} {d : Nat} {fe : List TypeId} {xs : List (T.U d)} {op : Option (Nat × List (AV T.U))} (hx : aev T F x = some (.own i)) (hy : aev T F y = some (cI T kk j)) (hi : H[i]? = some (.drow e d fe xs op))
    (hel : elemIs T P t (.user d) = true) (hj : 0 ≤ j ∧ j < ((xs.length : Nat) : Int)) (h : Sim T w0 S0 ⟨F, H⟩ F' w S φ) (K : Kont P ops Q (k + 1) n ds w0 S0 (⟨updA T F o.dst (.eptr i (T.size d) j.toNat 0), H⟩ : St T)) : WR P ops Q k n ds F' w := by
  obtain ⟨X, h1, h2⟩ := aev_rel h.fr hx
  obtain ⟨Y, h3, h4⟩ := aev_rel h.fr hy
  have e1 := cint_rel h4; subst e1
  have hdi := decIndex_of hd hop
  rw [evD_of h1, evD_of h3] at hdi
  obtain ⟨g, cc, B, vals, a1, a2, _⟩ := drow_seg h hi (a := j.toNat) (by omega)
  rw [VR] at h2; subst h2
  rw [a1, a2] at hdi
  refine val_wr hd ((QR.indexS (S := S) (φ := φ) (rd := []) (w := w) hd hdi _ (elemIs_spec hel) j.toNat (by omega) (by omega)) w (Chg.refl _ _) fun _ _ _ _ _ => rfl) h (a := .eptr i (T.size d) j.toNat 0) ⟨g, a1, by simp [szT]⟩ ⟨(aev_ok h hx).1, ?_⟩ K
  intro e1 t1 ys hy1
  rw [hi] at hy1; cases hy1
theorem stepR_sound {R : Type} {r : R} (hd : dec ops k n F' = some o) {K : St T → Option R} {z : Option R} (hz : stepR P C o ⟨F, H⟩ K = some z) (hr : z = some r) (h : Sim T w0 S0 ⟨F, H⟩ F' w S φ)
    (HK : ∀ st, K st = some r → Kont P ops Q (k + 1) n ds w0 S0 st) : WR P ops Q k n ds F' w := by
  unfold stepR at hz
  split at hz <;> try (cases hz; done)
  · rename_i t x y hop
    split at hz <;> try (cases hz; done)
    obtain rfl := Option.some.inj hz
    split at hr <;> try (cases hr; done)
    rename_i hx hy
    exact makeD_wr hd hop hx hy hr h fun a H1 ha => HK _ ha
  · rename_i t x y hop
    split at hz <;> try (cases hz; done)
    rename_i i hx
    split at hz <;> try (cases hz; done)
    rename_i e d fe xs op hi
    obtain rfl := Option.some.inj hz
    split at hr <;> try (cases hr; done)
    rename_i kk j hy hel
    obtain ⟨hj, hK⟩ := idxD_some hr
    exact indexD_wr hd hop hx hy hi hel hj h (HK _ hK)
  · rename_i t x hop
    split at hz <;> try (cases hz; done)
    rename_i i sz a c hx
    split at hz <;> try (cases hz; done)
    rename_i hi
    obtain rfl := Option.some.inj hz
    exact loadD_wr hd hop hx hi hr h fun v H1 hv => HK _ hv
  · rename_i t x y hop
    split at hz <;> try (cases hz; done)
    rename_i i sz a c hx
    split at hz <;> try (cases hz; done)
    rename_i hi
    obtain rfl := Option.some.inj hz
    split at hr <;> try (cases hr; done)
    rename_i v hdst hy
    exact storeD_wr hd hop hdst hx hy hi hr h fun H1 hv => HK _ hv
end
end Go.X
