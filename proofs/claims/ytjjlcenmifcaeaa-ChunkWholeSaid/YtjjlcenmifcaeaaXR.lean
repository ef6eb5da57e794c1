/- Typed things out of abstract values; rows that are read as lists for a while. Nothing here is about one program. -/
import Derived.Test.YtjjlcenmifcaeaaX6
namespace Go.X
open Go.RowKit Go.V

def obind {α β : Type} (o : Option α) (f : α → Option β) : Option β := match o with | some a => f a | none => none
theorem obind_some {α β : Type} {o : Option α} {f : α → Option β} {y : β} (h : obind o f = some y) : ∃ a, o = some a ∧ f a = some y := by
  unfold obind at h
  split at h
  · exact ⟨_, rfl, h⟩
  · cases h
section
variable (T : Tab)
def scalT : Ty → Bool
  | .user i => T.scal i
  | t => t.scal
def cellV {U : Nat → Type} : Cell U → Value
  | ⟨.int k, x⟩ => .int k x
  | ⟨.bool, x⟩ => .bool x
  | ⟨.str, x⟩ => .string x
  | _ => undef
/-- a value in which no list lies. -/
def valT (t : Ty) (x : den T.U t) : Value :=
  match t, x with
  | .user i, x => .agg ((T.cells i x).map cellV).toArray
  | .int k, x => .int k x
  | .bool, x => .bool x
  | .str, x => .string x
  | .list _, _ => undef
  | .nl _, _ => undef
/-- a typed thing as an abstract value. -/
def toAV (t : Ty) (x : den T.U t) : AV T.U :=
  match t, x with
  | .user i, x => .agg ((T.cells i x).map .cell)
  | .int k, x => .cell ⟨.int k, x⟩
  | .bool, x => .cell ⟨.bool, x⟩
  | .str, x => .cell ⟨.str, x⟩
  | .list e, x => .cell ⟨.list e, x⟩
  | .nl e, x => .cell ⟨.nl e, x⟩
/-- a typed thing, of an abstract value that stays as it is. -/
def ofAV (t : Ty) (a : AV T.U) : Option (den T.U t) :=
  match t, a with
  | .user i, .agg cs => match cellsOf T cs with | some l => T.pack i l | none => none
  | .user _, _ => none
  | .list _, .raw (.slice none 0 0) => some []
  | .nl _, .raw (.slice none 0 0) => some []
  | t, .cell c => c.as t
  | _, _ => none
/-- lists of such lists, read as lists of lists. -/
def nlL {R : Type} (t e : Ty) (xs : List (den T.U t)) (K : List (den T.U e) → Option R) : Option R :=
  match t, e, xs, K with
  | .nl a, .list b, xs, K => if h : a = b then K (h ▸ xs : List (List (den T.U b))) else none
  | _, _, _, _ => none
/-- lists that are nothing just if they have nothing, read as lists; lists that have something, read as such. -/
def rdN {R : Type} (H : List (Ent T.U)) (t : Ty) (a : AV T.U) (K : den T.U t → Option R) : Option R :=
  match t, a, K with
  | .list e, .cell ⟨.nl e', xs⟩, K => if h : e' = e then K (h ▸ xs : List (den T.U e)) else none
  | .nl e, .cell ⟨.list e', xs⟩, K => if h : e' = e then (if 0 < (h ▸ xs : List (den T.U e)).length then K (h ▸ xs : List (den T.U e)) else none) else none
  | .nl e, .own i, K => match H[i]? with
    | some (.row _ t xs) => if h : t = e then (if 0 < (h ▸ xs : List (den T.U e)).length then K (h ▸ xs : List (den T.U e)) else none) else none
    | _ => none
  | _, _, _ => none
/-- the same, where what is owned may be handed as a list for a while. -/
def rdF1 {R : Type} (H : List (Ent T.U)) (t : Ty) (a : AV T.U) (K : den T.U t → Option R) : Option R :=
  match t, a, K with
  | .list e, .own i, K => match H[i]? with
    | some (.row _ t xs) => (if h : t = e then K (h ▸ xs) else none)
    | _ => none
  | .list e, .sl i sz o n, K => match H[i]? with
    | some (.row _ t xs) => match Nat.beq sz (szT T t) with
      | true => (if h : t = e then (if o + n ≤ xs.length then K ((h ▸ xs : List (den T.U e)).drop o |>.take n) else none) else none)
      | false => none
    | _ => none
  | .list e, .asl i o sz n lo m, K => match H[i]? with
    | some (.blk _ cs) => match locB T cs o with
      | some (b :: _) => match arrI b with
        | some ⟨t, n', xs⟩ => match Nat.beq n' n && Nat.beq sz (szT T t) with
          | true => (if h : t = e then K ((h ▸ xs : List (den T.U e)).drop lo |>.take m) else nlL T t e ((xs.drop lo).take m) K)
          | false => none
        | none => none
      | _ => none
    | _ => none
  | t, a, K => match ofAV T t a with | some x => K x | none => rdN T H t a K
def rdCs {R : Type} (H : List (Ent T.U)) : List Ty → List (AV T.U) → (List (Cell T.U) → Option R) → Option R
  | [], [], K => K []
  | t :: ts, a :: as, K => match t.one with | true => rdF1 T H t a fun x => rdCs H ts as fun l => K (⟨t, x⟩ :: l) | false => none
  | _, _, _ => none
def tysOf (i : Nat) : List Ty := (T.cells i (T.d i)).map (·.t)
/-- structs too, part by part. -/
def rdF {R : Type} (H : List (Ent T.U)) (t : Ty) (a : AV T.U) (K : den T.U t → Option R) : Option R :=
  match t, a, K with
  | .user i, .agg cs, K => rdCs T H (tysOf T i) cs fun l => match T.pack i l with | some x => K x | none => none
  | t, a, K => rdF1 T H t a K
end
section
variable {T : Tab} {P : Program} {w w' : World} {S S' : List Nat} {φ φ' : Nat → RA} {w0 : World} {S0 : Ow} {F : AF T} {H : List (Ent T.U)} {F' : PF}
theorem CR.sub0 {t : Ty} {x : den T.U t} {v : Value} (h : CR T w S t x v) (hS : ∀ b ∈ S', b ∈ S) : CR T w S' t x v := h.chg T (Chg.refl [] w) (by simp) fun b hb => .inl (hS b hb)
theorem cells_vrl : ∀ {cs : List (Cell T.U)} {vs : List Value}, VRL T w S φ (cs.map .cell) vs → ∀ (S' : List Nat) (φ' : Nat → RA), (∀ b ∈ S', b ∈ S) → VRL T w S' φ' (cs.map .cell) vs
  | [], [], _, _, _, _ => trivial
  | [], _ :: _, h, _, _, _ => h.elim
  | _ :: _, [], h, _, _, _ => h.elim
  | _ :: _, _ :: _, h, S', φ', hS => ⟨CR.sub0 h.1 hS, cells_vrl h.2 S' φ' hS⟩
theorem toAV_sub {t : Ty} {x : den T.U t} {v : Value} (h : VR T w S φ (toAV T t x) v) (φ' : Nat → RA) (hS : ∀ b ∈ S', b ∈ S) : VR T w S' φ' (toAV T t x) v := by
  cases t with
  | user i =>
    obtain ⟨vs, h1, h2⟩ := h
    exact ⟨vs, h1, cells_vrl h2 _ _ hS⟩
  | int k => exact CR.sub0 h hS
  | bool => exact CR.sub0 h hS
  | str => exact CR.sub0 h hS
  | list e => exact CR.sub0 h hS
  | nl e => exact CR.sub0 h hS
theorem cellsOf_map : ∀ {as : List (AV T.U)} {l : List (Cell T.U)}, cellsOf T as = some l → as = l.map .cell
  | [], l, h => by simp only [cellsOf, Option.some.injEq] at h; subst h; rfl
  | a :: r, l, h => by
    unfold cellsOf at h
    split at h
    · rename_i c l' hc hl
      simp only [Option.some.injEq] at h; subst h
      rw [List.map_cons, ← cellsOf_map hl]
      unfold cellOf at hc
      split at hc
      · simp only [Option.some.injEq] at hc; subst hc; rfl
      · cases hc
    · cases h
theorem CR.empty {e : Ty} {ad : Option Addr} {cap : Nat} (hn : ad = none → cap = 0) : CR T w S (.list e) [] (.slice ad 0 cap) :=
  .list e [] ad cap (fun _ _ => undef) (Nat.zero_le _) (fun h => ⟨rfl, hn h⟩) (fun h => absurd rfl h) (fun k j c h => by simp at h) fun k j c h => by simp at h
theorem CR.recap {e : Ty} {xs : List (den T.U e)} {ad : Option Addr} {cap cap' : Nat} (h : CR T w S (.list e) xs (.slice ad xs.length cap)) (hc : xs.length ≤ cap') (hn : ad = none → cap' = 0) : CR T w S (.list e) xs (.slice ad xs.length cap') := by
  generalize hv : Value.slice ad xs.length cap = v at h
  cases h with
  | list _ _ ad' cap0 u hcap hnil had hcell hrel =>
    simp only [Value.slice.injEq, true_and] at hv
    obtain ⟨rfl, rfl⟩ := hv
    exact .list e xs ad cap' u hc (fun h => ⟨(hnil h).1, hn h⟩) had hcell hrel
/-- a row that is owned, as a list for a while. -/
theorem row_cr {i : Nat} {e : TypeId} {t : Ty} {xs : List (den T.U t)} (h : EntR T w S φ i (.row e t xs)) (hS : ∀ b ∈ S', b ∈ S) (hb : ∀ a, (φ i).ad = some a → a.block ∉ S') : CR T w S' (.list t) xs (.slice (φ i).ad (φ i).n (φ i).cap) := by
  obtain ⟨B, vals, h1, h2, h3, h4, h5⟩ := h
  have hat : ∀ (k j : Nat) (c : Cell T.U), (xs[k]?.map fun x => (flat T t x)[j]?) = some (some c) → (xs.flatMap (flat T t))[k * szT T t + j]? = some c := by
    intro k j c hk
    cases hx : xs[k]? with
    | none => rw [hx] at hk; cases hk
    | some x =>
      rw [hx] at hk
      simp only [Option.map_some, Option.some.injEq] at hk
      have := flat_at (flat_len T t) hx
      have hj : j < szT T t := by have := (List.getElem?_eq_some_iff.1 hk).1; rwa [flat_len] at this
      rw [← this, List.getElem?_take, if_pos hj, List.getElem?_drop] at hk
      exact hk
  have hval : ∀ (k j : Nat) (c : Cell T.U), (xs[k]?.map fun x => (flat T t x)[j]?) = some (some c) → vals[k * szT T t + j]? = some (vals.getD (k * szT T t + j) undef) := by
    intro k j c hk
    have := (List.getElem?_eq_some_iff.1 (hat k j c hk)).1
    rw [h4.1] at this
    exact getD_get undef this
  rw [h2]
  rw [h2] at h1
  refine .list t xs _ _ (fun k j => vals.getD (k * szT T t + j) undef) h1.le.1 h1.nil0 ?_ ?_ ?_
  · intro hne
    rcases h1.cases with ⟨_, hn, _⟩ | ⟨c, had, _, hb', _⟩
    · exact absurd (List.eq_nil_of_length_eq_zero hn) hne
    · exact ⟨by rw [had]; rfl, hb'.lt, hb _ had⟩
  · intro k j c hk
    exact (h1.rg _ _ (hval k j c hk)).2
  · intro k j c hk
    exact CR.sub0 (h4.2 _ c _ (hat k j c hk) (hval k j c hk)) hS
theorem CR.nilS {e : Ty} : CR T w S (.list e) [] (.slice none 0 0) := CR.empty fun _ => rfl
theorem as_val {t : Ty} {c : Cell T.U} {x : den T.U t} (h : c.as t = some x) {v : Value} (hv : VR T w S φ (.cell c) v) (ht : ∀ i, t ≠ .user i) : VR T w S φ (toAV T t x) v := by
  have := Cell.as_eq h; subst this
  cases t <;> first | exact hv | exact absurd rfl (ht _)
theorem ofAV_rel {t : Ty} {a : AV T.U} {x : den T.U t} (h : ofAV T t a = some x) {v : Value} (hv : VR T w S φ a v) (φ' : Nat → RA) : VR T w S φ' (toAV T t x) v := by
  have one : ∀ {t : Ty} {c : Cell T.U} {x : den T.U t}, (∀ i, t ≠ .user i) → c.as t = some x → VR T w S φ (.cell c) v → VR T w S φ' (toAV T t x) v :=
    fun hnu h hv => toAV_sub (as_val h hv hnu) φ' fun _ h => h
  cases t with
  | user i =>
    cases a <;> simp only [ofAV, reduceCtorEq] at h
    rename_i cs
    split at h
    · rename_i l hl
      have := T.packed _ _ _ h
      obtain ⟨vs, h1, h2⟩ := hv
      refine ⟨vs, h1, ?_⟩
      rw [this]
      rw [cellsOf_map hl] at h2
      exact cells_vrl h2 _ _ fun _ h => h
    · cases h
  | list e =>
    cases a with
    | cell c => exact one (by intro i hi; cases hi) h hv
    | raw u =>
      have hu : u = .slice none 0 0 ∧ x = [] := by
        cases u with
        | slice ad n c =>
          cases ad with
          | some _ => cases h
          | none =>
            cases n with
            | succ _ => cases h
            | zero =>
              cases c with
              | succ _ => cases h
              | zero => exact ⟨rfl, (Option.some.inj h).symm⟩
        | _ => cases h
      obtain ⟨rfl, rfl⟩ := hu
      rw [VR] at hv; subst hv
      exact CR.nilS
    | _ => cases h
  | nl e =>
    cases a with
    | cell c => exact one (by intro i hi; cases hi) h hv
    | raw u =>
      have hu : u = .slice none 0 0 ∧ x = [] := by
        cases u with
        | slice ad n c =>
          cases ad with
          | some _ => cases h
          | none =>
            cases n with
            | succ _ => cases h
            | zero =>
              cases c with
              | succ _ => cases h
              | zero => exact ⟨rfl, (Option.some.inj h).symm⟩
        | _ => cases h
      obtain ⟨rfl, rfl⟩ := hu
      rw [VR] at hv; subst hv
      exact .nl e [] none 0 CR.nilS fun _ => ⟨rfl, rfl⟩
    | _ => cases h
  | int k => cases a <;> first | (cases h; done) | exact one (by intro i hi; cases hi) h hv
  | bool => cases a <;> first | (cases h; done) | exact one (by intro i hi; cases hi) h hv
  | str => cases a <;> first | (cases h; done) | exact one (by intro i hi; cases hi) h hv
theorem rg_cr {g p cap : Nat} {t : Ty} {xs : List (den T.U t)} {vals : List Value} (hb : g < w.heap.size) (hr : Rg w (some ⟨g, p, none⟩) vals) (h4 : CellsR T w S (xs.flatMap (flat T t)) vals) (hcap : xs.length ≤ cap) (hS : ∀ b ∈ S', b ∈ S) (hg : g ∉ S') : CR T w S' (.list t) xs (.slice (some ⟨g, p, none⟩) xs.length cap) := by
  have hat : ∀ (k j : Nat) (c : Cell T.U), (xs[k]?.map fun x => (flat T t x)[j]?) = some (some c) → (xs.flatMap (flat T t))[k * szT T t + j]? = some c := by
    intro k j c hk
    cases hx : xs[k]? with
    | none => rw [hx] at hk; cases hk
    | some x =>
      rw [hx] at hk
      simp only [Option.map_some, Option.some.injEq] at hk
      have := flat_at (flat_len T t) hx
      have hj : j < szT T t := by have := (List.getElem?_eq_some_iff.1 hk).1; rwa [flat_len] at this
      rw [← this, List.getElem?_take, if_pos hj, List.getElem?_drop] at hk
      exact hk
  have hval : ∀ (k j : Nat) (c : Cell T.U), (xs[k]?.map fun x => (flat T t x)[j]?) = some (some c) → vals[k * szT T t + j]? = some (vals.getD (k * szT T t + j) undef) := by
    intro k j c hk
    have := (List.getElem?_eq_some_iff.1 (hat k j c hk)).1
    rw [h4.1] at this
    exact getD_get undef this
  refine .list t xs _ _ (fun k j => vals.getD (k * szT T t + j) undef) hcap (by simp) ?_ ?_ ?_
  · intro hne; exact ⟨rfl, hb, hg⟩
  · intro k j c hk
    exact (hr _ _ (hval k j c hk)).2
  · intro k j c hk
    exact CR.sub0 (h4.2 _ c _ (hat k j c hk) (hval k j c hk)) hS
/-- an array within a block: where its cells lie. -/
theorem arr_at {i : Nat} {e : TypeId} {cs r : List (AV T.U)} {o n : Nat} {t : Ty} {xs : List (den T.U t)} (h : EntR T w S φ i (.blk e cs)) (hl : locB T cs o = some (.arr t n xs :: r)) :
    ∃ g c vals, (φ i).ad = some ⟨g, 0, none⟩ ∧ Blk w g c e ∧ g ∈ S ∧ xs.length = n ∧ Rg w (some ⟨g, o, none⟩) vals ∧ CellsR T w S (xs.flatMap (flat T t)) vals := by
  obtain ⟨g, c, h1, h2, h3, h4⟩ := h
  obtain ⟨pre, h5, h6⟩ := locB_spec hl h4.2
  obtain ⟨h7, h8⟩ := BR.at h4 h5 h6
  have he : (exp1 T (.arr t n xs)).length = n * szT T t := by rw [exp1_len T h7.2.1]; rfl
  have h9 := h7.1.take T (n * szT T t)
  rw [expL, List.take_append_of_le_length (by omega), List.take_of_length_le (by omega)] at h9
  refine ⟨g, c, _, h1, h2, h3, h7.2.1, Rg.blk h2 _ (fun j u hj => ?_), VRL.cells.1 h9⟩
  rw [List.getElem?_take] at hj
  split at hj
  · rw [List.getElem?_drop] at hj; simpa using hj
  · cases hj
/-- a slice of an array within a block, as a list for a while. -/
theorem asl_cr {i : Nat} {e : TypeId} {cs r : List (AV T.U)} {o n lo m : Nat} {t : Ty} {xs : List (den T.U t)} (h : EntR T w S φ i (.blk e cs)) (hl : locB T cs o = some (.arr t n xs :: r)) {v : Value} (hv : VR T w S φ' (.asl i o (szT T t) n lo m) v) (hφ : φ' i = φ i) (hS : ∀ b ∈ S', b ∈ S) (hb : ∀ a, (φ i).ad = some a → a.block ∉ S') :
    CR T w S' (.list t) ((xs.drop lo).take m) v := by
  obtain ⟨g, c, vals, h1, h2, h3, h4, h5, h6⟩ := arr_at h hl
  obtain ⟨g', ad, a1, rfl, a2, a3⟩ := hv
  rw [hφ, h1] at a1; simp only [Option.some.injEq, Addr.mk.injEq, and_true] at a1; subst a1
  have hcr := rg_cr (S' := S') h2.lt h5 h6 (cap := n) (by omega) hS (hb _ h1)
  rcases Nat.lt_or_ge lo n with hlt | hge
  · have hs := CR.sub hcr (i := lo) (m := m) (by omega)
    have hc : cutAd (some (⟨g, o, none⟩ : Addr)) n lo (szT T t) = some ad := by
      rcases a3 with a3 | a3
      · omega
      · subst a3
        unfold cutAd
        rw [if_neg (by omega)]
        simp only [Option.map_some, Addr.add]
        split
        · rename_i hz; simp [hz]
        · rfl
    rwa [hc] at hs
  · have : m = 0 := by omega
    subst this
    rw [List.take_zero]
    exact CR.empty (by simp)
def memE {U : Nat → Type} : Ent U → Bool | .blk _ _ => true | .row _ _ _ => true | _ => false
/-- The rows and blocks among entries are as they are seen. -/
def RowsR (T : Tab) (w : World) (S : List Nat) (φ : Nat → RA) (H : List (Ent T.U)) (ids : List Nat) : Prop := ∀ i ∈ ids, ∀ (en : Ent T.U), H[i]? = some en → memE en = true → EntR T w S φ i en
theorem CR.unNl1 {a : Ty} {x : List (den T.U a)} {v : Value} (h : CR T w S (.nl a) x v) : CR T w S (.list a) x v := by
  cases h with
  | nl _ _ ad cap h1 h2 => exact h1
theorem CR.unNl {a : Ty} {xs : List (List (den T.U a))} {v : Value} (h : CR T w S (.list (.nl a)) xs v) : CR T w S (.list (.list a)) xs v := by
  cases h with
  | list _ _ ad cap u hcap hnil had hcell hrel =>
    have key : ∀ (k j : Nat) (c : Cell T.U), (xs[k]?.map fun x => (flat T (.list a) x)[j]?) = some (some c) → ∃ x, xs[k]? = some x ∧ j = 0 ∧ c = ⟨.list a, x⟩ := by
      intro k j c hc
      cases hx : xs[k]? with
      | none => rw [hx] at hc; cases hc
      | some x =>
        rw [hx] at hc
        have hc : (flat T (.list a) x)[j]? = some c := Option.some.inj hc
        cases j with
        | zero => exact ⟨x, rfl, rfl, (Option.some.inj hc).symm⟩
        | succ j => cases hc
    refine .list (.list a) xs ad cap u hcap hnil had (fun k j c hc => ?_) (fun k j c hc => ?_)
    · obtain ⟨x, hx, rfl, rfl⟩ := key k j c hc
      exact hcell k 0 ⟨.nl a, x⟩ ((congrArg (Option.map fun x : den T.U (.nl a) => (flat T (.nl a) x)[0]?) hx).trans rfl)
    · obtain ⟨x, hx, rfl, rfl⟩ := key k j c hc
      exact CR.unNl1 (hrel k 0 ⟨.nl a, x⟩ ((congrArg (Option.map fun x : den T.U (.nl a) => (flat T (.nl a) x)[0]?) hx).trans rfl))
theorem rdN_rel {R : Type} {r : R} {t : Ty} {a : AV T.U} {K : den T.U t → Option R} (h : rdN T H t a K = some r) (hs : RowsR T w S φ H a.ids) {v : Value} (hv : VR T w S φ a v) (φ' : Nat → RA) (hS : ∀ b ∈ S', b ∈ S) (hb : ∀ i ∈ a.ids, ∀ ad, (φ i).ad = some ad → ad.block ∉ S') : ∃ x, K x = some r ∧ VR T w S' φ' (toAV T t x) v := by
  unfold rdN at h
  split at h
  · rename_i e e' xs K
    split at h
    · rename_i ht
      subst ht
      refine ⟨xs, h, ?_⟩
      have hv : CR T w S (.nl e') xs v := hv
      cases hv with
      | nl _ _ ad cap h1 h2 => exact CR.sub0 h1 hS
    · cases h
  · rename_i e e' xs K
    split at h
    · rename_i ht
      subst ht
      split at h
      · rename_i hp
        refine ⟨xs, h, ?_⟩
        have hv : CR T w S (.list e') xs v := hv
        cases hv with
        | list _ _ ad cap u h1 h2 h3 h4 h5 => exact .nl _ xs ad cap (CR.sub0 (.list _ xs ad cap u h1 h2 h3 h4 h5) hS) fun q => by subst q; exact absurd hp (Nat.lt_irrefl 0)
      · cases h
    · cases h
  · rename_i e i K
    split at h
    · rename_i e' t' xs hi
      split at h
      · rename_i ht
        subst ht
        split at h
        · rename_i hp
          refine ⟨xs, h, ?_⟩
          rw [VR] at hv; subst hv
          have hr := row_cr (hs i (by simp [AV.ids]) _ hi rfl) hS (hb i (by simp [AV.ids]))
          obtain ⟨B, vals, h1, h2, _⟩ := hs i (by simp [AV.ids]) _ hi rfl
          rw [h2] at hr ⊢
          exact .nl _ xs _ _ hr fun q => by subst q; exact absurd hp (Nat.lt_irrefl 0)
        · cases h
      · cases h
    · cases h
  · cases h
theorem rdF1_rel {R : Type} {r : R} {t : Ty} {a : AV T.U} {K : den T.U t → Option R} (h : rdF1 T H t a K = some r) (hs : RowsR T w S φ H a.ids) {v : Value} (hv : VR T w S φ a v) (φ' : Nat → RA) (hS : ∀ b ∈ S', b ∈ S) (hb : ∀ i ∈ a.ids, ∀ ad, (φ i).ad = some ad → ad.block ∉ S') : ∃ x, K x = some r ∧ VR T w S' φ' (toAV T t x) v := by
  unfold rdF1 at h
  split at h
  · rename_i e i K
    split at h
    · rename_i e' t' xs hi
      split at h
      · rename_i ht
        subst ht
        refine ⟨xs, h, ?_⟩
        rw [VR] at hv; subst hv
        exact row_cr (hs i (by simp [AV.ids]) _ hi rfl) hS (hb i (by simp [AV.ids]))
      · cases h
    · cases h
  · rename_i e i sz o n K
    split at h
    · rename_i e' t' xs hi
      split at h
      · rename_i hsz
        have := Nat.eq_of_beq_eq_true hsz; subst this
        split at h
        · rename_i ht
          subst ht
          split at h
          · rename_i hle
            refine ⟨_, h, ?_⟩
            obtain ⟨ad, rfl, hcap, hn, hnil, _⟩ := hv
            have hent := hs i (by simp [AV.ids]) _ hi rfl
            have hr := row_cr hent hS (hb i (by simp [AV.ids]))
            have hlen : (List.take n (List.drop o xs)).length = n := by rw [List.length_take, List.length_drop]; omega
            rcases hn with hn | ⟨g, hg1, hg2⟩
            · subst hn
              rw [List.take_zero]
              exact CR.empty fun hn => (hnil hn).2
            · obtain ⟨B, vals, h1, h2, _⟩ := hent
              rw [h2] at hr
              have hsub := CR.sub hr hle
              by_cases h0 : n = 0
              · subst h0; rw [List.take_zero]; exact CR.empty fun hn => (hnil hn).2
              · have hcut : cutAd (φ i).ad (φ i).cap o (szT T t') = ad := by
                  have := h1.le.1
                  unfold cutAd
                  rw [if_neg (by omega), hg1, hg2]
                  simp only [Option.map_some, Addr.add]
                  split
                  · rename_i hz; simp [hz]
                  · simp
                rw [hcut] at hsub
                exact hsub
          · cases h
        · cases h
      · cases h
    · cases h
  · rename_i e i o sz n lo m K
    split at h
    · rename_i e' cs hi
      split at h
      · rename_i b r hl
        split at h
        · rename_i t n' xs hb'
          have := arrI_eq hb'; subst this
          split at h
          · rename_i hn
            rw [Bool.and_eq_true] at hn
            obtain ⟨h1, h2⟩ := hn
            have h1 := Nat.eq_of_beq_eq_true h1; have h2 := Nat.eq_of_beq_eq_true h2
            subst h1; subst h2
            split at h
            · rename_i ht
              subst ht
              exact ⟨_, h, asl_cr (hs i (by simp [AV.ids]) _ hi rfl) hl hv rfl hS (hb i (by simp [AV.ids]))⟩
            · unfold nlL at h
              split at h
              · rename_i a b ys K'
                split at h
                · rename_i hab
                  subst hab
                  exact ⟨_, h, CR.unNl (asl_cr (hs i (by simp [AV.ids]) _ hi rfl) hl hv rfl hS (hb i (by simp [AV.ids])))⟩
                · cases h
              · cases h
          · cases h
        · cases h
      · cases h
    · cases h
  · split at h
    · rename_i x hx
      exact ⟨x, h, toAV_sub (ofAV_rel hx hv φ') φ' hS⟩
    · exact rdN_rel h hs hv φ' hS hb
theorem rdCs_rel {R : Type} {r : R} : ∀ {ts : List Ty} {as : List (AV T.U)} {K : List (Cell T.U) → Option R}, rdCs T H ts as K = some r → RowsR T w S φ H (idsL as) → ∀ {vs : List Value}, VRL T w S φ as vs → ∀ (φ' : Nat → RA), (∀ b ∈ S', b ∈ S) → (∀ i ∈ idsL as, ∀ ad, (φ i).ad = some ad → ad.block ∉ S') → ∃ l, K l = some r ∧ VRL T w S' φ' (l.map .cell) vs
  | [], [], K, h, _, [], _, _, _, _ => ⟨[], h, trivial⟩
  | [], [], _, _, _, _ :: _, hv, _, _, _ => hv.elim
  | [], _ :: _, _, h, _, _, _, _, _, _ => by cases h
  | _ :: _, [], _, h, _, _, _, _, _, _ => by cases h
  | t :: ts, a :: as, _, _, _, [], hv, _, _, _ => hv.elim
  | t :: ts, a :: as, K, h, hs, v :: vs, hv, φ', hS, hb => by
    have h : (match t.one with | true => rdF1 T H t a (fun x => rdCs T H ts as fun l => K (⟨t, x⟩ :: l)) | false => none) = some r := h
    split at h <;> try (cases h; done)
    rename_i ht
    obtain ⟨x, h1, h2⟩ := rdF1_rel h (fun i hi => hs i (by rw [idsL]; exact List.mem_append.2 (.inl hi))) hv.1 φ' hS fun i hi => hb i (by rw [idsL]; exact List.mem_append.2 (.inl hi))
    obtain ⟨l, h3, h4⟩ := rdCs_rel h1 (fun i hi => hs i (by rw [idsL]; exact List.mem_append.2 (.inr hi))) hv.2 φ' hS fun i hi => hb i (by rw [idsL]; exact List.mem_append.2 (.inr hi))
    refine ⟨_, h3, ?_, h4⟩
    cases t <;> first | exact h2 | cases ht
theorem rdF_relS {R : Type} {r : R} {t : Ty} {a : AV T.U} {K : den T.U t → Option R} (h : rdF T H t a K = some r) (hs : RowsR T w S φ H a.ids) {v : Value} (hv : VR T w S φ a v) (φ' : Nat → RA) (hS : ∀ b ∈ S', b ∈ S) (hb : ∀ i ∈ a.ids, ∀ ad, (φ i).ad = some ad → ad.block ∉ S') : ∃ x, K x = some r ∧ VR T w S' φ' (toAV T t x) v := by
  unfold rdF at h
  split at h
  · rename_i i cs K
    obtain ⟨vs, rfl, h2⟩ := hv
    obtain ⟨l, h3, h4⟩ := rdCs_rel h (by intro j hj; exact hs j (by rw [AV.ids]; exact hj)) h2 φ' hS fun j hj => hb j (by rw [AV.ids]; exact hj)
    split at h3
    · rename_i x hx
      refine ⟨x, h3, vs, rfl, ?_⟩
      rw [T.packed _ _ _ hx]; exact h4
    · cases h3
  · exact rdF1_rel h hs hv φ' hS hb
theorem rdF_rel {R : Type} {r : R} {t : Ty} {a : AV T.U} {K : den T.U t → Option R} (h : rdF T H t a K = some r) (hs : RowsR T w S φ H a.ids) {v : Value} (hv : VR T w S φ a v) (φ' : Nat → RA) : ∃ x, K x = some r ∧ VR T w [] φ' (toAV T t x) v :=
  rdF_relS h hs hv φ' (by simp) (by simp)
theorem rdN_det {R : Type} {r : R} {t : Ty} {a : AV T.U} {K : den T.U t → Option R} (h : rdN T H t a K = some r) : ∃ x, K x = some r ∧ ∀ {R' : Type} (K' : den T.U t → Option R'), rdN T H t a K' = K' x := by
  unfold rdN at h
  split at h
  · split at h
    · rename_i ht
      subst ht
      exact ⟨_, h, fun K' => by simp only [rdN, dite_true]⟩
    · cases h
  · split at h
    · rename_i ht
      subst ht
      split at h
      · rename_i hp
        exact ⟨_, h, fun K' => by simp only [rdN, dite_true, if_pos hp]⟩
      · cases h
    · cases h
  · split at h
    · rename_i hi
      split at h
      · rename_i ht
        subst ht
        split at h
        · rename_i hp
          exact ⟨_, h, fun K' => by simp only [rdN, hi, dite_true, if_pos hp]⟩
        · cases h
      · cases h
    · cases h
  · cases h
theorem rdF1_det {R : Type} {r : R} {t : Ty} {a : AV T.U} {K : den T.U t → Option R} (h : rdF1 T H t a K = some r) : ∃ x, K x = some r ∧ ∀ {R' : Type} (K' : den T.U t → Option R'), rdF1 T H t a K' = K' x := by
  unfold rdF1 at h ⊢
  split at h
  · split at h
    · rename_i hi
      split at h
      · rename_i ht
        subst ht
        exact ⟨_, h, fun K' => by simp only [dite_true]⟩
      · cases h
    · cases h
  · split at h
    · rename_i hi
      split at h
      · rename_i hsz
        split at h
        · rename_i ht
          subst ht
          split at h
          · rename_i hle
            exact ⟨_, h, fun K' => by simp only [dite_true, if_pos hle]⟩
          · cases h
        · cases h
      · cases h
    · cases h
  · split at h
    · rename_i hi
      split at h
      · rename_i hl
        split at h
        · rename_i hb
          split at h
          · rename_i hn
            split at h
            · rename_i ht
              subst ht
              exact ⟨_, h, fun K' => by simp only [dite_true]⟩
            · rename_i hne
              unfold nlL at h
              split at h
              · split at h
                · rename_i hab
                  subst hab
                  exact ⟨_, h, fun K' => by simp only [dif_neg hne, nlL, dite_true]⟩
                · cases h
              · cases h
          · cases h
        · cases h
      · cases h
    · cases h
  · rename_i t a K hn1 hn2 hn3
    split at h
    · rename_i x hx
      refine ⟨x, h, fun K' => ?_⟩
      split
      · exact (hn1 _ _ K rfl rfl HEq.rfl).elim
      · exact (hn2 _ _ _ _ _ K rfl rfl HEq.rfl).elim
      · exact (hn3 _ _ _ _ _ _ _ K rfl rfl HEq.rfl).elim
      · rw [hx]
    · rename_i hx
      obtain ⟨x, h1, h2⟩ := rdN_det h
      refine ⟨x, h1, fun K' => ?_⟩
      split
      · exact (hn1 _ _ K rfl rfl HEq.rfl).elim
      · exact (hn2 _ _ _ _ _ K rfl rfl HEq.rfl).elim
      · exact (hn3 _ _ _ _ _ _ _ K rfl rfl HEq.rfl).elim
      · rw [hx]; exact h2 K'
theorem rdCs_det {R : Type} {r : R} : ∀ {ts : List Ty} {as : List (AV T.U)} {K : List (Cell T.U) → Option R}, rdCs T H ts as K = some r → ∃ l, K l = some r ∧ ∀ {R' : Type} (K' : List (Cell T.U) → Option R'), rdCs T H ts as K' = K' l
  | [], [], K, h => ⟨[], h, fun K' => rfl⟩
  | [], _ :: _, _, h => by cases h
  | _ :: _, [], _, h => by cases h
  | t :: ts, a :: as, K, h => by
    have h : (match t.one with | true => rdF1 T H t a (fun x => rdCs T H ts as fun l => K (⟨t, x⟩ :: l)) | false => none) = some r := h
    split at h <;> try (cases h; done)
    rename_i ht
    obtain ⟨x, h1, h2⟩ := rdF1_det h
    obtain ⟨l, h3, h4⟩ := rdCs_det h1
    refine ⟨_, h3, fun K' => ?_⟩
    show (match t.one with | true => rdF1 T H t a (fun x => rdCs T H ts as fun l => K' (⟨t, x⟩ :: l)) | false => none) = _
    rw [ht]; simp only; rw [h2, h4]
theorem rdF_det {R : Type} {r : R} {t : Ty} {a : AV T.U} {K : den T.U t → Option R} (h : rdF T H t a K = some r) : ∃ x, K x = some r ∧ ∀ {R' : Type} (K' : den T.U t → Option R'), rdF T H t a K' = K' x := by
  unfold rdF at h ⊢
  split at h
  · rename_i i cs K
    obtain ⟨l, h1, h2⟩ := rdCs_det h
    split at h1
    · rename_i x hx
      exact ⟨x, h1, fun K' => by simp only [h2, hx]⟩
    · cases h1
  · rename_i t a K hn
    obtain ⟨x, h1, h2⟩ := rdF1_det h
    refine ⟨x, h1, fun K' => ?_⟩
    split
    · exact (hn _ _ K rfl rfl HEq.rfl).elim
    · exact h2 K'
/-- a text's bytes. -/
def strBytes (s : ByteArray) : List Int := s.data.toList.map fun b => (b.toNat : Int)
theorem strBytes_len (s : ByteArray) : (strBytes s).length = s.size := (List.length_map _).trans Array.length_toList
/-- of bytes a text. -/
def bytesStr (l : List Int) : ByteArray := l.foldl (fun r n => r.push (UInt8.ofNat n.toNat)) ByteArray.empty
end
end Go.X
