/- Typed things out of abstract values; rows that are read as lists for a while. Nothing here is about one program. -/
import Derived.Test.YtdlmkfnjljlmgaaX6
namespace Go.X
open Go.RowKit Go.V

def obind {α β : Type} (o : Option α) (f : α → Option β) : Option β := match o with | some a => f a | none => none
theorem obind_some {α β : Type} {o : Option α} {f : α → Option β} {y : β} (h : obind o f = some y) : ∃ a, o = some a ∧ f a = some y := by
  unfold obind at h
  split at h
  · exact ⟨_, rfl, h⟩
  · cases h
section
variable (T : Tab)
def scalT : Ty → Bool
  | .user i => T.scal i
  | t => t.scal
def cellV {U : Nat → Type} : Cell U → Value
  | ⟨.int k, x⟩ => .int k x
  | ⟨.bool, x⟩ => .bool x
  | ⟨.str, x⟩ => .string x
  | _ => undef
/-- a value in which no list lies. -/
def valT (t : Ty) (x : den T.U t) : Value :=
  match t, x with
  | .user i, x => .agg ((T.cells i x).map cellV).toArray
  | .int k, x => .int k x
  | .bool, x => .bool x
  | .str, x => .string x
  | .list _, _ => undef
/-- a typed thing as an abstract value. -/
def toAV (t : Ty) (x : den T.U t) : AV T.U :=
  match t, x with
  | .user i, x => .agg ((T.cells i x).map .cell)
  | .int k, x => .cell ⟨.int k, x⟩
  | .bool, x => .cell ⟨.bool, x⟩
  | .str, x => .cell ⟨.str, x⟩
  | .list e, x => .cell ⟨.list e, x⟩
/-- a typed thing, of an abstract value that stays as it is. -/
def ofAV (t : Ty) (a : AV T.U) : Option (den T.U t) :=
  match t, a with
  | .user i, .agg cs => match cellsOf T cs with | some l => T.pack i l | none => none
  | .user _, _ => none
  | .list _, .raw (.slice none 0 0) => some []
  | t, .cell c => c.as t
  | _, _ => none
/-- the same, where what is owned may be handed as a list for a while. -/
def rdF {R : Type} (H : List (Ent T.U)) (t : Ty) (a : AV T.U) (K : den T.U t → Option R) : Option R :=
  match t, a, K with
  | .list e, .own i, K => match H[i]? with
    | some (.row _ t xs) => (if h : t = e then K (h ▸ xs) else none)
    | _ => none
  | .list e, .sl i sz o n, K => match H[i]? with
    | some (.row _ t xs) => match Nat.beq sz (szT T t) with
      | true => (if h : t = e then (if o + n ≤ xs.length then K ((h ▸ xs : List (den T.U e)).drop o |>.take n) else none) else none)
      | false => none
    | _ => none
  | t, a, K => match ofAV T t a with | some x => K x | none => none
end
section
variable {T : Tab} {P : Program} {w w' : World} {S S' : List Nat} {φ φ' : Nat → RA} {w0 : World} {S0 : Ow} {F : AF T} {H : List (Ent T.U)} {F' : PF}
theorem CR.sub0 {t : Ty} {x : den T.U t} {v : Value} (h : CR T w S t x v) (hS : ∀ b ∈ S', b ∈ S) : CR T w S' t x v := h.chg T (Chg.refl [] w) (by simp) fun b hb => .inl (hS b hb)
theorem cells_vrl : ∀ {cs : List (Cell T.U)} {vs : List Value}, VRL T w S φ (cs.map .cell) vs → ∀ (S' : List Nat) (φ' : Nat → RA), (∀ b ∈ S', b ∈ S) → VRL T w S' φ' (cs.map .cell) vs
  | [], [], _, _, _, _ => trivial
  | [], _ :: _, h, _, _, _ => h.elim
  | _ :: _, [], h, _, _, _ => h.elim
  | _ :: _, _ :: _, h, S', φ', hS => ⟨CR.sub0 h.1 hS, cells_vrl h.2 S' φ' hS⟩
theorem toAV_sub {t : Ty} {x : den T.U t} {v : Value} (h : VR T w S φ (toAV T t x) v) (φ' : Nat → RA) (hS : ∀ b ∈ S', b ∈ S) : VR T w S' φ' (toAV T t x) v := by
  cases t with
  | user i =>
    obtain ⟨vs, h1, h2⟩ := h
    exact ⟨vs, h1, cells_vrl h2 _ _ hS⟩
  | int k => exact CR.sub0 h hS
  | bool => exact CR.sub0 h hS
  | str => exact CR.sub0 h hS
  | list e => exact CR.sub0 h hS
theorem cellsOf_map : ∀ {as : List (AV T.U)} {l : List (Cell T.U)}, cellsOf T as = some l → as = l.map .cell
  | [], l, h => by simp only [cellsOf, Option.some.injEq] at h; subst h; rfl
  | a :: r, l, h => by
    unfold cellsOf at h
    split at h
    · rename_i c l' hc hl
      simp only [Option.some.injEq] at h; subst h
      rw [List.map_cons, ← cellsOf_map hl]
      unfold cellOf at hc
      split at hc
      · simp only [Option.some.injEq] at hc; subst hc; rfl
      · cases hc
    · cases h
theorem CR.empty {e : Ty} {ad : Option Addr} {cap : Nat} (hn : ad = none → cap = 0) : CR T w S (.list e) [] (.slice ad 0 cap) :=
  .list e [] ad cap (fun _ _ => undef) (Nat.zero_le _) (fun h => ⟨rfl, hn h⟩) (fun h => absurd rfl h) (fun k j c h => by simp at h) fun k j c h => by simp at h
theorem CR.recap {e : Ty} {xs : List (den T.U e)} {ad : Option Addr} {cap cap' : Nat} (h : CR T w S (.list e) xs (.slice ad xs.length cap)) (hc : xs.length ≤ cap') (hn : ad = none → cap' = 0) : CR T w S (.list e) xs (.slice ad xs.length cap') := by
  generalize hv : Value.slice ad xs.length cap = v at h
  cases h with
  | list _ _ ad' cap0 u hcap hnil had hcell hrel =>
    simp only [Value.slice.injEq, true_and] at hv
    obtain ⟨rfl, rfl⟩ := hv
    exact .list e xs ad cap' u hc (fun h => ⟨(hnil h).1, hn h⟩) had hcell hrel
/-- a row that is owned, as a list for a while. -/
theorem row_cr {i : Nat} {e : TypeId} {t : Ty} {xs : List (den T.U t)} (h : EntR T w S φ i (.row e t xs)) : CR T w [] (.list t) xs (.slice (φ i).ad (φ i).n (φ i).cap) := by
  obtain ⟨B, vals, h1, h2, h3, h4, h5⟩ := h
  have hat : ∀ (k j : Nat) (c : Cell T.U), (xs[k]?.map fun x => (flat T t x)[j]?) = some (some c) → (xs.flatMap (flat T t))[k * szT T t + j]? = some c := by
    intro k j c hk
    cases hx : xs[k]? with
    | none => rw [hx] at hk; cases hk
    | some x =>
      rw [hx] at hk
      simp only [Option.map_some, Option.some.injEq] at hk
      have := flat_at (flat_len T t) hx
      have hj : j < szT T t := by have := (List.getElem?_eq_some_iff.1 hk).1; rwa [flat_len] at this
      rw [← this, List.getElem?_take, if_pos hj, List.getElem?_drop] at hk
      exact hk
  have hval : ∀ (k j : Nat) (c : Cell T.U), (xs[k]?.map fun x => (flat T t x)[j]?) = some (some c) → vals[k * szT T t + j]? = some (vals.getD (k * szT T t + j) undef) := by
    intro k j c hk
    have := (List.getElem?_eq_some_iff.1 (hat k j c hk)).1
    rw [h4.1] at this
    exact getD_get undef this
  rw [h2]
  rw [h2] at h1
  refine .list t xs _ _ (fun k j => vals.getD (k * szT T t + j) undef) h1.le.1 h1.nil0 ?_ ?_ ?_
  · intro hne
    rcases h1.cases with ⟨_, hn, _⟩ | ⟨c, had, _, hb, _⟩
    · exact absurd (List.eq_nil_of_length_eq_zero hn) hne
    · exact ⟨by rw [had]; rfl, hb.lt, by simp⟩
  · intro k j c hk
    exact (h1.rg _ _ (hval k j c hk)).2
  · intro k j c hk
    exact CR.sub0 (h4.2 _ c _ (hat k j c hk) (hval k j c hk)) (by simp)
theorem CR.nilS {e : Ty} : CR T w S (.list e) [] (.slice none 0 0) := CR.empty fun _ => rfl
theorem as_val {t : Ty} {c : Cell T.U} {x : den T.U t} (h : c.as t = some x) {v : Value} (hv : VR T w S φ (.cell c) v) (ht : ∀ i, t ≠ .user i) : VR T w S φ (toAV T t x) v := by
  have := Cell.as_eq h; subst this
  cases t <;> first | exact hv | exact absurd rfl (ht _)
theorem ofAV_rel {t : Ty} {a : AV T.U} {x : den T.U t} (h : ofAV T t a = some x) {v : Value} (hv : VR T w S φ a v) (φ' : Nat → RA) : VR T w S φ' (toAV T t x) v := by
  have one : ∀ {t : Ty} {c : Cell T.U} {x : den T.U t}, (∀ i, t ≠ .user i) → c.as t = some x → VR T w S φ (.cell c) v → VR T w S φ' (toAV T t x) v :=
    fun hnu h hv => toAV_sub (as_val h hv hnu) φ' fun _ h => h
  cases t with
  | user i =>
    cases a <;> simp only [ofAV, reduceCtorEq] at h
    rename_i cs
    split at h
    · rename_i l hl
      have := T.packed _ _ _ h
      obtain ⟨vs, h1, h2⟩ := hv
      refine ⟨vs, h1, ?_⟩
      rw [this]
      rw [cellsOf_map hl] at h2
      exact cells_vrl h2 _ _ fun _ h => h
    · cases h
  | list e =>
    cases a with
    | cell c => exact one (by intro i hi; cases hi) h hv
    | raw u =>
      have hu : u = .slice none 0 0 ∧ x = [] := by
        cases u with
        | slice ad n c =>
          cases ad with
          | some _ => cases h
          | none =>
            cases n with
            | succ _ => cases h
            | zero =>
              cases c with
              | succ _ => cases h
              | zero => exact ⟨rfl, (Option.some.inj h).symm⟩
        | _ => cases h
      obtain ⟨rfl, rfl⟩ := hu
      rw [VR] at hv; subst hv
      exact CR.nilS
    | _ => cases h
  | int k => cases a <;> first | (cases h; done) | exact one (by intro i hi; cases hi) h hv
  | bool => cases a <;> first | (cases h; done) | exact one (by intro i hi; cases hi) h hv
  | str => cases a <;> first | (cases h; done) | exact one (by intro i hi; cases hi) h hv
/-- The rows among entries are as they are seen. -/
def RowsR (T : Tab) (w : World) (S : List Nat) (φ : Nat → RA) (H : List (Ent T.U)) (ids : List Nat) : Prop := ∀ i ∈ ids, ∀ (e : TypeId) (t : Ty) (xs : List (den T.U t)), H[i]? = some (.row e t xs) → EntR T w S φ i (.row e t xs)
theorem rdF_rel {R : Type} {r : R} {t : Ty} {a : AV T.U} {K : den T.U t → Option R} (h : rdF T H t a K = some r) (hs : RowsR T w S φ H a.ids) {v : Value} (hv : VR T w S φ a v) (φ' : Nat → RA) : ∃ x, K x = some r ∧ VR T w [] φ' (toAV T t x) v := by
  unfold rdF at h
  split at h
  · rename_i e i K
    split at h
    · rename_i e' t' xs hi
      split at h
      · rename_i ht
        subst ht
        refine ⟨xs, h, ?_⟩
        rw [VR] at hv; subst hv
        exact row_cr (hs i (by simp [AV.ids]) _ _ _ hi)
      · cases h
    · cases h
  · rename_i e i sz o n K
    split at h
    · rename_i e' t' xs hi
      split at h
      · rename_i hsz
        have := Nat.eq_of_beq_eq_true hsz; subst this
        split at h
        · rename_i ht
          subst ht
          split at h
          · rename_i hle
            refine ⟨_, h, ?_⟩
            obtain ⟨ad, rfl, hcap, hn, hnil, _⟩ := hv
            have hent := hs i (by simp [AV.ids]) _ _ _ hi
            have hr := row_cr hent
            have hlen : (List.take n (List.drop o xs)).length = n := by rw [List.length_take, List.length_drop]; omega
            rcases hn with hn | ⟨g, hg1, hg2⟩
            · subst hn
              rw [List.take_zero]
              exact CR.empty fun hn => (hnil hn).2
            · obtain ⟨B, vals, h1, h2, _⟩ := hent
              rw [h2] at hr
              have hsub := CR.sub hr hle
              by_cases h0 : n = 0
              · subst h0; rw [List.take_zero]; exact CR.empty fun hn => (hnil hn).2
              · have hcut : cutAd (φ i).ad (φ i).cap o (szT T t') = ad := by
                  have := h1.le.1
                  unfold cutAd
                  rw [if_neg (by omega), hg1, hg2]
                  simp only [Option.map_some, Addr.add]
                  split
                  · rename_i hz; simp [hz]
                  · simp
                rw [hcut] at hsub
                exact hsub
          · cases h
        · cases h
      · cases h
    · cases h
  · split at h
    · rename_i x hx
      exact ⟨x, h, toAV_sub (ofAV_rel hx hv φ') φ' (by simp)⟩
    · cases h
theorem rdF_det {R : Type} {r : R} {t : Ty} {a : AV T.U} {K : den T.U t → Option R} (h : rdF T H t a K = some r) : ∃ x, K x = some r ∧ ∀ {R' : Type} (K' : den T.U t → Option R'), rdF T H t a K' = K' x := by
  unfold rdF at h ⊢
  split at h
  · split at h
    · rename_i hi
      split at h
      · rename_i ht
        subst ht
        exact ⟨_, h, fun K' => by simp only [dite_true]⟩
      · cases h
    · cases h
  · split at h
    · rename_i hi
      split at h
      · rename_i hsz
        split at h
        · rename_i ht
          subst ht
          split at h
          · rename_i hle
            exact ⟨_, h, fun K' => by simp only [dite_true, if_pos hle]⟩
          · cases h
        · cases h
      · cases h
    · cases h
  · rename_i t a K hn1 hn2
    split at h
    · rename_i x hx
      refine ⟨x, h, fun K' => ?_⟩
      split
      · exact (hn1 _ _ K rfl rfl HEq.rfl).elim
      · exact (hn2 _ _ _ _ _ K rfl rfl HEq.rfl).elim
      · rw [hx]
    · cases h
/-- of bytes a text. -/
def bytesStr (l : List Int) : ByteArray := l.foldl (fun r n => r.push (UInt8.ofNat n.toNat)) ByteArray.empty
end
end Go.X
