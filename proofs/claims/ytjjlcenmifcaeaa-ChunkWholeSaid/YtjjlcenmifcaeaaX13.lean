/- What is known of a function, in types of Lean: what it is handed, what it answers. Nothing here is about one program. -/
import Derived.Test.YtjjlcenmifcaeaaX12
namespace Go.X
open Go.RowKit Go.V

section
variable (T : Tab)
/-- arrays that are answered whole, as slices: as rows. -/
def fixW (m : Nat) : List Nat → List (AV T.U) → List (Ent T.U) → Option (List (AV T.U) × List (Ent T.U))
  | [], as, H => some (as, H)
  | j :: r, as, H => match as[j]? with
    | some (.asl i o sz n lo k) => match H[i]? with
      | some (.blk e [b]) => match arrI b with
        | some ⟨t, n', xs⟩ => match Nat.beq o 0 && (Nat.beq lo 0 && (Nat.beq n' n && (Nat.beq k n && (Nat.beq sz (szT T t) && (Nat.ble n 9223372036854775807 && Nat.ble 1 n && (Nat.ble m i && (!(memN i (idsL (as.set j (.raw undef)))) && H.all fun e => !(memN i e.cellIds)))))))) with
          | true => fixW m r (as.set j (.own i)) (H.set i (.row e t xs))
          | false => none
        | none => none
      | _ => none
    | some _ => fixW m r as H
    | none => none
/-- what results become. -/
structure Zw where
  w : List Nat
  z : List (Nat × Ty)
end
section
variable {T : Tab} {w : World} {S : List Nat} {w0 : World} {S0 : Ow} {F' : PF}
theorem fixW_sound {m : Nat} (hm : S0.pin.length ≤ m) : ∀ (l : List Nat) {as as' : List (AV T.U)} {us : List Value} {H H' : List (Ent T.U)} {φ : Nat → RA}, fixW T m l as H = some (as', H') → Sim T w0 S0 ⟨[], H⟩ F' w S φ → VRL T w S φ as us → (∀ i ∈ idsL as, i < H.length) →
    ∃ φ', Sim T w0 S0 ⟨[], H'⟩ F' w S φ' ∧ VRL T w S φ' as' us ∧ ∀ i ∈ idsL as', i < H'.length
  | [], as, as', us, H, H', φ, h, hs, hv, hid => by
    simp only [fixW, Option.some.injEq, Prod.mk.injEq] at h
    obtain ⟨rfl, rfl⟩ := h
    exact ⟨φ, hs, hv, hid⟩
  | j :: r, as, as', us, H, H', φ, h, hs, hv, hid => by
    unfold fixW at h
    split at h
    · rename_i i o sz n lo k hasj
      split at h <;> try (cases h; done)
      rename_i e b hi
      split at h <;> try (cases h; done)
      rename_i t n' xs hb
      have := arrI_eq hb; subst this
      split at h <;> try (cases h; done)
      rename_i hc
      simp only [Bool.and_eq_true, Bool.not_eq_true'] at hc
      obtain ⟨c1, c2, c3, c4, c5, c6, c7, c8, c9⟩ := hc
      have := Nat.eq_of_beq_eq_true c1; subst this
      have := Nat.eq_of_beq_eq_true c2; subst this
      have := Nat.eq_of_beq_eq_true c3; subst this
      have := Nat.eq_of_beq_eq_true c4; subst this
      have := Nat.eq_of_beq_eq_true c5; subst this
      have c60 := Nat.le_of_ble_eq_true c6.2
      have c6 := Nat.le_of_ble_eq_true c6.1
      have c7 := Nat.le_of_ble_eq_true c7
      have hil := (List.getElem?_eq_some_iff.1 hi).1
      obtain ⟨g, c, a1, a2, a3, a4, a5⟩ := hs.ents i _ hi
      have hlen : xs.length = k := a5.1
      have hcr : CellsR T w S (xs.flatMap (flat T t)) c.toList := by
        have := a4
        rw [expL, expL, List.append_nil] at this
        exact VRL.cells.1 this
      have hsz : c.size = k * szT T t := by
        have := hcr.1
        rw [flatMap_lenT (flat_len T t), hlen] at this
        simpa using this.symm
      let φ' : Nat → RA := setR φ i ⟨some ⟨g, 0, none⟩, k, k, (φ i).xs⟩
      have hφ : ∀ q, q ≠ i → φ' q = φ q := fun q hq => setR_ne hq
      have had : ∀ q, (φ' q).ad = (φ q).ad := fun q => by
        by_cases hq : q = i
        · subst hq; show (setR φ q _ q).ad = _; rw [setR_eq]; exact a1.symm
        · rw [hφ q hq]
      have hat : ∀ {q : Nat} {z : Addr}, At (φ' q) z → At (φ q) z := fun {q z} hz => by
        rcases hz with hz | hz
        · exact .inl (by rw [← had]; exact hz)
        · right
          by_cases hq : q = i
          · subst hq
            have hx : (setR φ q ⟨some ⟨g, 0, none⟩, k, k, (φ q).xs⟩ q).xs = (φ q).xs := by rw [setR_eq]
            exact hx ▸ hz
          · rw [← hφ q hq]; exact hz
      have hne : ∀ (q : Nat) (f : Ent T.U), H[q]? = some f → i ∉ f.cellIds := fun q f hf hm => by
        have := List.all_eq_true.1 c9 f (List.mem_of_getElem? hf)
        rw [memN_iff.2 hm] at this; cases this
      have hs' : Sim T w0 S0 ⟨[], H.set i (.row e t xs)⟩ F' w S φ' := by
        have get : ∀ (q : Nat) (f : Ent T.U), (H.set i (.row e t xs))[q]? = some f → (q = i ∧ f = .row e t xs) ∨ (q ≠ i ∧ H[q]? = some f) := by
          intro q f hf
          by_cases hq : q = i
          · subst hq; rw [List.getElem?_set_self hil] at hf; exact .inl ⟨rfl, (Option.some.inj hf).symm⟩
          · rw [List.getElem?_set_ne (Ne.symm hq)] at hf; exact .inr ⟨hq, hf⟩
        refine ⟨fun q a ha => by simp [AF.get] at ha, fun q a ha => by simp [AF.get] at ha, hs.chg, hs.own, hs.ex, ?_, fun q r hk => ?_, ?_, ?_, ?_⟩
        · intro q f hf hl z hz
          replace hz := hat hz
          rcases get q f hf with ⟨hq, hf'⟩ | ⟨_, hf'⟩
          · rw [hq] at hz; exact hs.lives i _ hi rfl z hz
          · exact hs.lives q f hf' hl z hz
        · obtain ⟨q1, q2⟩ := hs.pins q r hk
          have hlt := (List.getElem?_eq_some_iff.1 hk).1
          exact ⟨by rw [hφ q (by omega)]; exact q1, by simpa using q2⟩
        · intro q f hf
          rcases get q f hf with ⟨rfl, rfl⟩ | ⟨hq, hf⟩
          · refine ⟨0, c.toList, ?_, ?_, Nat.zero_le _, hcr, fun a ha => ?_⟩
            · show Own w 0 e (szT T t) (setR φ q _ q).ad (setR φ q _ q).n (setR φ q _ q).cap c.toList
              rw [setR_eq]
              exact Own.ofBlk a2 (Nat.zero_le _) (Nat.le_refl _) c6 hsz _ (List.take_of_length_le (by simp [hsz]))
            · show (setR φ q _ q).n = _; rw [setR_eq]; exact hlen.symm
            · rw [had, a1] at ha; simp only [Option.some.injEq] at ha; subst ha; exact a3
          · exact (hs.ents q f hf).phiE (hφ q hq) fun x hx => .of (hφ x fun e => hne q f hf (e ▸ hx))
        · intro q f hf x hx
          rcases get q f hf with ⟨rfl, rfl⟩ | ⟨_, hf⟩
          · cases hx
          · have := hs.eids q f hf x hx; simpa using this
        · intro q q' f f' hf hf' hl hl' hqq z z' hz hz'
          replace hz := hat hz; replace hz' := hat hz'
          have lv : ∀ (q : Nat) (f : Ent T.U), (H.set i (.row e t xs))[q]? = some f → f.live = true → ∃ f0, H[q]? = some f0 ∧ f0.live = true := by
            intro q f hf hl
            rcases get q f hf with ⟨hq, _⟩ | ⟨_, hf⟩
            · rw [hq]; exact ⟨_, hi, rfl⟩
            · exact ⟨f, hf, hl⟩
          obtain ⟨f0, k1, k2⟩ := lv q f hf hl
          obtain ⟨f0', k1', k2'⟩ := lv q' f' hf' hl'
          exact hs.apart q q' f0 f0' k1 k1' k2 k2' hqq z z' hz hz'
      obtain ⟨v, hv1, hv2⟩ := hv.get T hasj
      have hnot : i ∉ idsL (as.set j (.raw undef)) := fun hm => by rw [memN_iff.2 hm] at c8; cases c8
      have hvs : VRL T w S φ' (as.set j (.own i)) us := by
        have h1 := (hv.set T j (a := .raw undef) (v := undef) (by rw [VR])).phi (φ' := φ') fun q hq => hφ q fun e => hnot (e ▸ hq)
        have h2 := h1.set T j (a := .own i) (v := v) (by
          obtain ⟨g', ad, p1, rfl, p2, p3⟩ := hv2
          rw [a1] at p1; simp only [Option.some.injEq, Addr.mk.injEq, and_true] at p1; subst p1
          rw [VR]
          show _ = Value.slice (setR φ i _ i).ad (setR φ i _ i).n (setR φ i _ i).cap
          rw [setR_eq]
          rcases p3 with p3 | p3
          · omega
          · subst p3; simp)
        rw [List.set_set, List.set_set] at h2
        rwa [show us.set j v = us by
          obtain ⟨hlt, hg⟩ := List.getElem?_eq_some_iff.1 hv1
          rw [← hg, List.set_getElem_self]] at h2
      exact fixW_sound hm r h hs' hvs (by
        intro q hq
        obtain ⟨a, ha1, ha2⟩ := idsL_of hq
        rcases List.mem_or_eq_of_mem_set ha1 with ha1 | ha1
        · have := hid q (idsL_mem ha1 q ha2); simpa using this
        · subst ha1; simp [AV.ids] at ha2; subst ha2; simpa using hil)
    · exact fixW_sound hm r h hs hv hid
    · cases h
end
/-- What is handed: a value; a row that may be changed. -/
inductive PT where
  | val (t : Ty)
  | io (e : TypeId) (t : Ty)
/-- What is answered: a value; a row that is the caller's; a part of a row that was handed. -/
inductive RT where
  | val (t : Ty)
  | own (e : TypeId) (t : Ty)
  | part (k : Nat)
section
variable (T : Tab)
def RT.scal : RT → Bool
  | .val t => scalT T t
  | .own _ t => scalT T t
  | .part _ => true
def scalRs : List RT → Bool | [] => true | t :: r => t.scal T && scalRs r
def qRs : List RT → Bool | [] => true | .val t :: r => scalT T t && qRs r | _ :: _ => false
def denPT : PT → Type
  | .val t => den T.U t
  | .io _ t => List (den T.U t)
def denPs : List PT → Type
  | [] => Unit
  | [t] => denPT T t
  | t :: s :: r => denPT T t × denPs (s :: r)
def denRT : RT → Type
  | .val t => den T.U t
  | .own _ t => List (den T.U t)
  | .part _ => Nat × Nat
def denRs : List RT → Type
  | [] => Unit
  | [t] => denRT T t
  | t :: s :: r => denRT T t × denRs (s :: r)
/-- the rows that may be changed. -/
def iosP : List PT → List (TypeId × Ty)
  | [] => []
  | .val _ :: r => iosP r
  | .io e t :: r => (e, t) :: iosP r
def denIo : List (TypeId × Ty) → Type → Type
  | [], B => B
  | (_, t) :: r, B => List (den T.U t) × denIo r B
def PT.cnt : PT → Nat | .val _ => 0 | .io _ _ => 1
def avP (k : Nat) : (t : PT) → denPT T t → AV T.U
  | .val t, x => toAV T t x
  | .io _ _, _ => .own k
def argsL (k : Nat) : (ps : List PT) → denPs T ps → List (AV T.U)
  | [], _ => []
  | [t], x => [avP T k t x]
  | t :: s :: r, x => avP T k t x.1 :: argsL (k + t.cnt) (s :: r) x.2
def entP : (t : PT) → denPT T t → List (Ent T.U)
  | .val _, _ => []
  | .io e t, xs => [.row e t xs]
def entPs : (ps : List PT) → denPs T ps → List (Ent T.U)
  | [], _ => []
  | [t], x => entP T t x
  | t :: s :: r, x => entP T t x.1 ++ entPs (s :: r) x.2
def rdIn (H : List (Ent T.U)) : (t : PT) → AV T.U → Option (denPT T t)
  | .val t, a => ofAV T t a
  | .io e t, a => rdOwnI H e t a
where
  rdOwnI (H : List (Ent T.U)) (e : TypeId) (t : Ty) : AV T.U → Option (List (den T.U t))
    | .own i => match H[i]? with
      | some (.row e' t' xs) => match Nat.beq e' e with | true => (if h : t' = t then some (h ▸ xs) else none) | false => none
      | _ => none
    | _ => none
/-- the entries that are handed. -/
def idsIn : List PT → List (AV T.U) → List Nat
  | .io _ _ :: r, .own i :: as => i :: idsIn r as
  | _ :: r, _ :: as => idsIn r as
  | _, _ => []
def rdPs (H : List (Ent T.U)) : (ps : List PT) → List (AV T.U) → Option (denPs T ps)
  | [], [] => some ()
  | [t], [a] => rdIn T H t a
  | t :: s :: r, a :: as => match rdIn T H t a, rdPs H (s :: r) as with | some x, some y => some (x, y) | _, _ => none
  | _, _ => none
def rdInF {R : Type} (H : List (Ent T.U)) : (t : PT) → AV T.U → (denPT T t → Option R) → Option R
  | .val t, a, K => rdF T H t a K
  | .io _ _, _, _ => none
def rdPsF {R : Type} (H : List (Ent T.U)) : (ps : List PT) → List (AV T.U) → (denPs T ps → Option R) → Option R
  | [], [], K => K ()
  | [t], [a], K => rdInF T H t a K
  | t :: s :: r, a :: as, K => rdInF T H t a fun x => rdPsF H (s :: r) as fun y => K (x, y)
  | _, _, _ => none
/-- what is answered, of what lies in the results. -/
def rdOwn (H : List (Ent T.U)) (e : TypeId) (t : Ty) : AV T.U → Option (List (den T.U t))
  | .own i => match H[i]? with
    | some (.row e' t' xs) => match Nat.beq e' e with | true => (if h : t' = t then some (h ▸ xs) else none) | false => none
    | _ => none
  | .sl i sz 0 n => match H[i]? with
    | some (.row e' t' xs) => match Nat.beq e' e, Nat.beq sz (szT T t) with | true, true => (if h : t' = t then (if n ≤ xs.length then some ((h ▸ xs : List (den T.U t)).take n) else none) else none) | _, _ => none
    | _ => none
  | .raw (.slice none 0 0) => some []
  | _ => none
def rdPart (H : List (Ent T.U)) (k : Nat) : AV T.U → Option (Nat × Nat)
  | .own i => match Nat.beq i k, H[i]? with | true, some (.row _ _ xs) => some (0, xs.length) | _, _ => none
  | .sl i sz o n => match Nat.beq i k, H[i]? with | true, some (.row _ t _) => (match Nat.beq sz (szT T t) with | true => some (o, n) | false => none) | _, _ => none
  | _ => none
def rdR (H : List (Ent T.U)) : (t : RT) → AV T.U → Option (denRT T t)
  | .val t, a => ofAV T t a
  | .own e t, a => rdOwn T H e t a
  | .part k, a => rdPart T H k a
def rdRs (H : List (Ent T.U)) : (rs : List RT) → List (AV T.U) → Option (denRs T rs)
  | [], [] => some ()
  | [t], [a] => rdR T H t a
  | t :: s :: r, a :: as => match rdR T H t a, rdRs H (s :: r) as with | some x, some y => some (x, y) | _, _ => none
  | _, _ => none
/-- the rows that were handed, as they are now. -/
def rdIo {β : Type} (H : List (Ent T.U)) (B : Option β) : (ios : List (TypeId × Ty)) → Nat → Option (denIo T ios β)
  | [], _ => B
  | (e, t) :: r, k => match rdAt H e t k, rdIo H B r (k + 1) with | some xs, some y => some (xs, y) | _, _ => none
where
  rdAt (H : List (Ent T.U)) (e : TypeId) (t : Ty) (k : Nat) : Option (List (den T.U t)) :=
    match H[k]? with
    | some (.row e' t' xs) => match Nat.beq e' e with | true => (if h : t' = t then some (h ▸ xs) else none) | false => none
    | _ => none
/-- what is answered, for the caller: the entries begin at b; the rows that were handed are ids. -/
def avR (ids : List Nat) (ios : List (TypeId × Ty)) (b : Nat) : (t : RT) → denRT T t → AV T.U
  | .val t, x => toAV T t x
  | .own _ _, _ => .own b
  | .part k, x => .sl (ids.getD k 0) (szT T (ios.getD k (0, .bool)).2) x.1 x.2
def entR : (t : RT) → denRT T t → List (Ent T.U)
  | .val _, _ => []
  | .own e t, xs => [.row e t xs]
  | .part _, _ => []
def RT.cnt : RT → Nat | .own _ _ => 1 | _ => 0
def avRs (ids : List Nat) (ios : List (TypeId × Ty)) (b : Nat) : (rs : List RT) → denRs T rs → List (AV T.U)
  | [], _ => []
  | [t], x => [avR T ids ios b t x]
  | t :: s :: r, x => avR T ids ios b t x.1 :: avRs ids ios (b + t.cnt) (s :: r) x.2
def entRs : (rs : List RT) → denRs T rs → List (Ent T.U)
  | [], _ => []
  | [t], x => entR T t x
  | t :: s :: r, x => entR T t x.1 ++ entRs (s :: r) x.2
def entIo {β : Type} : (ios : List (TypeId × Ty)) → denIo T ios β → List (Ent T.U)
  | [], _ => []
  | (e, t) :: r, x => .row e t x.1 :: entIo r x.2
def lastIo {β : Type} : (ios : List (TypeId × Ty)) → denIo T ios β → β
  | [], x => x
  | _ :: r, x => lastIo r x.2
def setIo (H : List (Ent T.U)) : List Nat → List (Ent T.U) → List (Ent T.U)
  | i :: r, e :: es => setIo (H.set i e) r es
  | _, _ => H
def packR : List (AV T.U) → AV T.U
  | [a] => a
  | as => .tup as
/-- rows that are answered are apart. -/
def ownId : RT → AV T.U → List Nat
  | .own _ _, .own i => [i]
  | .own _ _, .sl i _ _ _ => [i]
  | _, _ => []
def ownIds : List RT → List (AV T.U) → List Nat
  | t :: r, a :: as => ownId T t a ++ ownIds r as
  | _, _ => []
end
section
variable {T : Tab} {P : Program} {w w' : World} {S S' : List Nat} {φ φ' : Nat → RA} {w0 : World} {S0 : Ow} {F : AF T} {H : List (Ent T.U)} {F' : PF}
theorem rdIn_rel {t : PT} {a : AV T.U} {x : denPT T t} (h : rdIn T H t a = some x) {v : Value} (hv : VR T w S φ a v) {φ' : Nat → RA} {k : Nat} (hk : ∀ i, (∃ e u, t = .io e u) → a = .own i → φ' k = φ i) : VR T w S φ' (avP T k t x) v := by
  cases t with
  | val t => exact ofAV_rel h hv φ'
  | io e t =>
    cases a <;> try (cases h; done)
    rename_i i
    rw [VR] at hv; subst hv
    simp only [avP]
    rw [VR, hk i ⟨e, t, rfl⟩ rfl]
theorem idsIn_cons (t : PT) (r : List PT) (a : AV T.U) (as : List (AV T.U)) : idsIn T (t :: r) (a :: as) = idsIn T [t] [a] ++ idsIn T r as := by
  cases t with
  | val t => cases a <;> rfl
  | io e t => cases a <;> rfl
theorem rdPs_rel : ∀ {ps : List PT} {as : List (AV T.U)} {x : denPs T ps}, rdPs T H ps as = some x → ∀ {vs : List Value}, VRL T w S φ as vs → ∀ {φ' : Nat → RA} {k : Nat}, (∀ j i, (idsIn T ps as)[j]? = some i → φ' (k + j) = φ i) → VRL T w S φ' (argsL T k ps x) vs := by
  intro ps
  induction ps with
  | nil =>
    intro as x h vs hv φ' k hk
    match as, h, vs, hv with
    | [], h, [], _ => exact trivial
    | _ :: _, h, _, _ => cases h
  | cons t q ih =>
    intro as x h vs hv φ' k hk
    match as, h, vs, hv with
    | [], h, _, _ => cases q <;> cases h
    | a :: as, h, v :: vs, hv =>
      cases q with
      | nil =>
        cases as with
        | cons _ _ => cases h
        | nil =>
          match vs, hv with
          | [], hv =>
            refine ⟨rdIn_rel h hv.1 fun i ht ha => ?_, trivial⟩
            obtain ⟨e, u, rfl⟩ := ht; subst ha
            exact hk 0 i rfl
      | cons s q =>
        have h : (match rdIn T H t a, rdPs T H (s :: q) as with | some x, some y => some (x, y) | _, _ => none) = some x := h
        split at h
        · rename_i x1 y1 h1 h2
          have h : (x1, y1) = x := Option.some.inj h
          subst h
          rw [idsIn_cons] at hk
          refine ⟨rdIn_rel h1 hv.1 fun i ht ha => ?_, ih h2 hv.2 fun j i hj => ?_⟩
          · obtain ⟨e, u, rfl⟩ := ht; subst ha
            exact hk 0 i rfl
          · have hlen : (idsIn T [t] [a]).length = t.cnt := by
              cases t with
              | val t => cases a <;> rfl
              | io e t => cases a <;> first | rfl | (cases h1; done)
            have := hk (t.cnt + j) i (by rw [List.getElem?_append_right (by omega), hlen, Nat.add_sub_cancel_left]; exact hj)
            rwa [← Nat.add_assoc] at this
        · cases h
theorem rdInF_rel {R : Type} {r : R} {t : PT} {a : AV T.U} {K : denPT T t → Option R} (h : rdInF T H t a K = some r) (hs : RowsR T w S φ H a.ids) {v : Value} (hv : VR T w S φ a v) (φ' : Nat → RA) (k : Nat) : ∃ x, K x = some r ∧ VR T w [] φ' (avP T k t x) v ∧ t.cnt = 0 ∧ entP T t x = [] := by
  cases t with
  | val t =>
    obtain ⟨x, h1, h2⟩ := rdF_rel (t := t) h hs hv φ'
    exact ⟨x, h1, h2, rfl, rfl⟩
  | io e t => cases h
theorem rdPsF_rel {R : Type} {r : R} : ∀ {ps : List PT} {as : List (AV T.U)} {K : denPs T ps → Option R}, rdPsF T H ps as K = some r → RowsR T w S φ H (idsL as) → ∀ {vs : List Value}, VRL T w S φ as vs → ∀ (φ' : Nat → RA) (k : Nat), ∃ x, K x = some r ∧ VRL T w [] φ' (argsL T k ps x) vs ∧ iosP ps = [] ∧ entPs T ps x = [] := by
  intro ps
  induction ps with
  | nil =>
    intro as K h hs vs hv φ' k
    match as, h, vs, hv with
    | [], h, [], _ => exact ⟨(), h, trivial, rfl, rfl⟩
    | _ :: _, h, _, _ => cases h
  | cons t q ih =>
    intro as K h hs vs hv φ' k
    have hios : t.cnt = 0 → iosP (t :: q) = iosP q := by
      intro hc
      cases t with
      | val t => rfl
      | io e t => cases hc
    match as, h, hs, vs, hv with
    | [], h, _, _, _ => cases q <;> cases h
    | a :: as, h, hs, v :: vs, hv =>
      cases q with
      | nil =>
        cases as with
        | cons _ _ => cases h
        | nil =>
          match vs, hv with
          | [], hv =>
            obtain ⟨x, h1, h2, h3, h4⟩ := rdInF_rel (t := t) h (fun i hi => hs i (by rw [idsL]; exact List.mem_append.2 (.inl hi))) hv.1 φ' k
            exact ⟨x, h1, ⟨h2, trivial⟩, hios h3, h4⟩
      | cons s q =>
        have h : rdInF T H t a (fun x => rdPsF T H (s :: q) as fun y => K (x, y)) = some r := h
        obtain ⟨x, h1, h2, h3, h4⟩ := rdInF_rel h (fun i hi => hs i (by rw [idsL]; exact List.mem_append.2 (.inl hi))) hv.1 φ' k
        obtain ⟨y, h5, h6, h7, h8⟩ := ih h1 (fun i hi => hs i (by rw [idsL]; exact List.mem_append.2 (.inr hi))) hv.2 φ' (k + t.cnt)
        refine ⟨(x, y), h5, ⟨h2, h6⟩, (hios h3).trans h7, ?_⟩
        show entP T t x ++ entPs T (s :: q) y = []
        rw [h4, h8]; rfl
theorem rdPsF_det {R : Type} {r : R} : ∀ {ps : List PT} {as : List (AV T.U)} {K : denPs T ps → Option R}, rdPsF T H ps as K = some r → ∃ x, K x = some r ∧ ∀ {R' : Type} (K' : denPs T ps → Option R'), rdPsF T H ps as K' = K' x := by
  have one : ∀ {R : Type} {r : R} {t : PT} {a : AV T.U} {K : denPT T t → Option R}, rdInF T H t a K = some r → ∃ x, K x = some r ∧ ∀ {R' : Type} (K' : denPT T t → Option R'), rdInF T H t a K' = K' x := by
    intro R r t a K h
    cases t with
    | val t => exact rdF_det (t := t) h
    | io e t => cases h
  intro ps
  induction ps with
  | nil =>
    intro as K h
    match as, h with
    | [], h => exact ⟨(), h, fun K' => rfl⟩
    | _ :: _, h => cases h
  | cons t q ih =>
    intro as K h
    match as, h with
    | [], h => cases q <;> cases h
    | a :: as, h =>
      cases q with
      | nil =>
        cases as with
        | cons _ _ => cases h
        | nil => exact one (t := t) h
      | cons s q =>
        have h : rdInF T H t a (fun x => rdPsF T H (s :: q) as fun y => K (x, y)) = some r := h
        obtain ⟨x, h1, h2⟩ := one h
        obtain ⟨y, h3, h4⟩ := ih h1
        refine ⟨(x, y), h3, fun K' => ?_⟩
        show rdInF T H t a (fun x => rdPsF T H (s :: q) as fun y => K' (x, y)) = K' (x, y)
        rw [h2, h4]
end
end Go.X
