/- Cuts: of a state what is still needed, its entries numbered anew. Nothing here is about one program. -/
import Derived.Test.YtjjlcenmifcaeaaX10
namespace Go.X
open Go.RowKit Go.V

section
variable (T : Tab)
def Ent.ren {U : Nat → Type} (ρ : Nat → Nat) : Ent U → Ent U
  | .blk e cs => .blk e (renL ρ cs)
  | .row e t xs => .row e t xs
  | .map k es => .map k (renM ρ es)
  | .tmap k t m => .tmap k t m
  | .drow e d fe xs op => .drow e d fe xs (renQ ρ op)
  | .pmap k be d m op => .pmap k be d m (renP ρ op)
  | .gone => .gone
def keepA (F : AF T) : List Nat → AF T
  | [] => []
  | i :: r => match F.get T i with | some a => (i, a) :: keepA F r | none => keepA F r
def idsF : AF T → List Nat
  | [] => []
  | (_, a) :: r => a.ids ++ idsF r
def idsH (H : List (Ent T.U)) : List Nat → List Nat
  | [] => []
  | i :: r => match H[i]? with | some e => e.cellIds ++ idsH H r | none => idsH H r
def closeN (H : List (Ent T.U)) : Nat → List Nat → List Nat
  | 0, l => l
  | n + 1, l => let l' := addN l (idsH T H l); match Nat.beq l'.length l.length with | true => l | false => closeN H n l'
def entsOf (H : List (Ent T.U)) (ρ : Nat → Nat) : List Nat → List (Ent T.U)
  | [] => []
  | i :: r => match H[i]? with | some e => e.ren ρ :: entsOf H ρ r | none => .gone :: entsOf H ρ r
def renF (ρ : Nat → Nat) : AF T → AF T
  | [] => []
  | (i, a) :: r => (i, a.ren ρ) :: renF ρ r
def subN (l : List Nat) : List Nat → Bool | [] => true | i :: r => memN i l && subN l r
/-- A cut: the slots that are kept; those in which nothing may stand for a row that is empty. -/
structure Cut where
  l : List Nat
  nils : List (Nat × TypeId × Ty)
  whole : Bool
  bn : List (Nat × Nat × TypeId × Ty)
  dz : Nat
  inl : Bool
/-- said in the place of a type: a row that lies in a cell becomes a slice of it. -/
abbrev ownMark : Nat := 4000000000
/-- said in the place of a type: what is open is closed. -/
abbrev closeMark : Nat := 4000000001
def ownNilsB : List (Nat × Nat × TypeId × Ty) → List (Ent T.U) → List (Ent T.U)
  | [], H => H
  | (i, c, e, t) :: r, H => match Nat.beq e closeMark with
    | true => ownNilsB r (closeL T (List.range H.length) H)
    | false => match H[i]? with
    | some (.blk e0 cs) => match cs[c]? with
      | some (.raw (.slice none 0 0)) => ownNilsB r (H.set i (.blk e0 (cs.set c (.own H.length))) ++ [.row e t []])
      | some (.own k) => match Nat.beq e ownMark with
        | true => match H[k]? with
          | some (.row _ t' xs) => ownNilsB r (H.set i (.blk e0 (cs.set c (.sl k (szT T t') 0 xs.length))))
          | _ => ownNilsB r H
        | false => ownNilsB r H
      | _ => ownNilsB r H
    | _ => ownNilsB r H
def ownNils : List (Nat × TypeId × Ty) → St T → St T
  | [], st => st
  | (s, e, t) :: r, st => match st.F.get T s with
    | some (.raw (.slice none 0 0)) => ownNils r ⟨(s, .own st.H.length) :: st.F, st.H ++ [.row e t []]⟩
    | _ => ownNils r st
def pinOk (m : Nat) (ids : List Nat) : Bool := (List.range m).all fun k => match ids[k]? with | some j => Nat.beq j k | none => false
def trim (m : Nat) (l : List Nat) (st : St T) : Option (St T) :=
  let F1 := keepA T st.F l
  let ids := closeN T st.H (st.H.length + 1) (addN (List.range m) (idsF T F1))
  match pinOk m ids && (nodupN ids && (ids.all (fun i => Nat.blt i st.H.length) && (subN ids (idsF T F1) && subN ids (idsH T st.H ids)))) with
  | true => some ⟨renF T (fun i => idxN i ids) F1, entsOf T st.H (fun i => idxN i ids) ids⟩
  | false => none
end
section
variable {T : Tab}
theorem subN_spec {l : List Nat} : ∀ {m : List Nat}, subN l m = true → ∀ i ∈ m, i ∈ l
  | [], _, i, h => by cases h
  | j :: r, h, i, hi => by
    unfold subN at h
    simp only [Bool.and_eq_true] at h
    rcases List.mem_cons.1 hi with rfl | hi
    · exact memN_iff.1 h.1
    · exact subN_spec h.2 i hi
theorem keepA_get {F : AF T} {i : Nat} {a : AV T.U} : ∀ {l : List Nat}, (keepA T F l).get T i = some a → F.get T i = some a
  | [], h => by simp [keepA, AF.get] at h
  | j :: r, h => by
    unfold keepA at h
    split at h
    · rename_i u hu
      simp only [AF.get] at h
      split at h
      · rename_i hb; have := Nat.eq_of_beq_eq_true hb; subst this; rw [hu]; exact h
      · exact keepA_get h
    · exact keepA_get h
theorem idsF_get {i : Nat} {a : AV T.U} : ∀ {F : AF T}, F.get T i = some a → ∀ j ∈ a.ids, j ∈ idsF T F
  | [], h, _, _ => by simp [AF.get] at h
  | (k, b) :: r, h, j, hj => by
    simp only [AF.get] at h
    unfold idsF
    split at h
    · simp only [Option.some.injEq] at h; subst h; exact List.mem_append.2 (.inl hj)
    · exact List.mem_append.2 (.inr (idsF_get h j hj))
theorem renF_get {ρ : Nat → Nat} {i : Nat} {b : AV T.U} : ∀ {F : AF T}, (renF T ρ F).get T i = some b → ∃ a, F.get T i = some a ∧ b = a.ren ρ
  | [], h => by simp [renF, AF.get] at h
  | (k, c) :: r, h => by
    simp only [renF, AF.get] at h ⊢
    split at h
    · simp only [Option.some.injEq] at h; exact ⟨c, rfl, h.symm⟩
    · exact renF_get h
theorem entsOf_get {H : List (Ent T.U)} {ρ : Nat → Nat} {j : Nat} {e : Ent T.U} : ∀ {l : List Nat}, (entsOf T H ρ l)[j]? = some e → ∃ i, l[j]? = some i ∧ ((∃ e0, H[i]? = some e0 ∧ e = e0.ren ρ) ∨ e = .gone)
  | [], h => by simp [entsOf] at h
  | i :: r, h => by
    unfold entsOf at h
    split at h
    · rename_i e0 he
      cases j with
      | zero => simp at h; exact ⟨i, rfl, .inl ⟨e0, he, h.symm⟩⟩
      | succ j => simp at h; simpa using entsOf_get h
    · cases j with
      | zero => simp at h; exact ⟨i, rfl, .inr h.symm⟩
      | succ j => simp at h; simpa using entsOf_get h
theorem entsOf_len {H : List (Ent T.U)} {ρ : Nat → Nat} : ∀ (l : List Nat), (entsOf T H ρ l).length = l.length
  | [] => rfl
  | i :: r => by unfold entsOf; split <;> simp [entsOf_len r]
theorem idsH_at {H : List (Ent T.U)} {i : Nat} {e : Ent T.U} (he : H[i]? = some e) : ∀ {l : List Nat}, i ∈ l → ∀ j ∈ e.cellIds, j ∈ idsH T H l
  | [], h, _, _ => by cases h
  | k :: r, h, j, hj => by
    unfold idsH
    rcases List.mem_cons.1 h with rfl | h
    · rw [he]; exact List.mem_append.2 (.inl hj)
    · split
      · exact List.mem_append.2 (.inr (idsH_at he h j hj))
      · exact idsH_at he h j hj
mutual
theorem ren_ids {U : Nat → Type} {ρ : Nat → Nat} : ∀ a : AV U, (a.ren ρ).ids = a.ids.map ρ
  | .cell _ => by rw [AV.ren]; rfl
  | .ptr _ _ => by rw [AV.ren]; rfl
  | .eptr _ _ _ _ => by rw [AV.ren]; rfl
  | .lptr _ _ _ _ => by rw [AV.ren]; rfl
  | .own _ => by rw [AV.ren]; rfl
  | .sl _ _ _ _ => by rw [AV.ren]; rfl
  | .agg cs => by rw [AV.ren, AV.ids, AV.ids, renL_ids cs]
  | .tup cs => by rw [AV.ren, AV.ids, AV.ids, renL_ids cs]
  | .fn _ a b => by rw [AV.ren, AV.ids, AV.ids, renL_ids a, renL_ids b, List.map_append]
  | .ifc _ a => by rw [AV.ren, AV.ids, AV.ids, ren_ids a]
  | .raw _ => by rw [AV.ren]; rfl
  | .arr _ _ _ => by rw [AV.ren]; rfl
  | .aptr _ _ _ _ _ _ => by rw [AV.ren]; rfl
  | .asl _ _ _ _ _ _ => by rw [AV.ren]; rfl
  | .mp _ => by rw [AV.ren]; rfl
theorem renL_ids {U : Nat → Type} {ρ : Nat → Nat} : ∀ l : List (AV U), idsL (renL ρ l) = (idsL l).map ρ
  | [] => rfl
  | a :: r => by rw [renL, idsL, idsL, ren_ids a, renL_ids r, List.map_append]
end
theorem renM_ids {U : Nat → Type} {ρ : Nat → Nat} : ∀ l : List (Int × AV U), idsM (renM ρ l) = (idsM l).map ρ
  | [] => rfl
  | (x, a) :: r => by rw [renM, idsM, idsM, ren_ids a, renM_ids r, List.map_append]
theorem renQ_ids {U : Nat → Type} {ρ : Nat → Nat} (op : Option (Nat × List (AV U))) : idsQ (renQ ρ op) = (idsQ op).map ρ := by
  cases op with
  | none => rfl
  | some p => obtain ⟨a, cs⟩ := p; exact renL_ids cs
theorem renP_ids (ρ : Nat → Nat) (op : Option (Int × Nat)) : idsP (renP ρ op) = (idsP op).map ρ := by cases op <;> rfl
theorem Ent.ren_cellIds {U : Nat → Type} {ρ : Nat → Nat} (e : Ent U) : (e.ren ρ).cellIds = e.cellIds.map ρ := by cases e <;> first | rfl | exact renL_ids _ | exact renM_ids _ | exact renQ_ids _ | exact renP_ids _ _
theorem Ent.ren_live {U : Nat → Type} {ρ : Nat → Nat} (e : Ent U) : (e.ren ρ).live = e.live := by cases e <;> rfl
/-- Other numbers: of each new number the old one. -/
theorem Sim.renum {w0 : World} {S0 : Ow} {F F1 : AF T} {H : List (Ent T.U)} {F' : PF} {w : World} {S : List Nat} {φ : Nat → RA} (h : Sim T w0 S0 ⟨F, H⟩ F' w S φ) (ids : List Nat) (hF : ∀ i a, F1.get T i = some a → F.get T i = some a)
    (hn : nodupN ids = true) (hp : ∀ k, k < S0.pin.length → ids[k]? = some k) (h1 : ∀ i ∈ idsF T F1, i ∈ ids) (h2 : ∀ i ∈ idsH T H ids, i ∈ ids) :
    Sim T w0 S0 ⟨renF T (fun i => idxN i ids) F1, entsOf T H (fun i => idxN i ids) ids⟩ F' w S (fun j => φ (ids.getD j 0)) := by
  have hρ : ∀ i ∈ ids, φ (ids.getD (idxN i ids) 0) = φ i := by
    intro i hi
    rw [List.getD_eq_getElem?_getD, (idxN_spec hi).2]; rfl
  have hd : ∀ {j i : Nat}, ids[j]? = some i → φ (ids.getD j 0) = φ i := by
    intro j i hj
    rw [List.getD_eq_getElem?_getD, hj]; rfl
  refine ⟨?_, ?_, h.chg, h.own, h.ex, ?_, fun k r hk => ?_, ?_, ?_, ?_⟩
  · intro i b hb
    obtain ⟨a, ha, rfl⟩ := renF_get hb
    obtain ⟨v, h3, h4⟩ := h.fr i a (hF i a ha)
    exact ⟨v, h3, h4.ren T fun j hj => hρ j (h1 j (idsF_get ha j hj))⟩
  · intro i b hb
    obtain ⟨a, ha, rfl⟩ := renF_get hb
    obtain ⟨h3, h4⟩ := h.ids i a (hF i a ha)
    have hin := fun j hj => h1 j (idsF_get ha j hj)
    refine ⟨?_, ?_⟩
    · intro j hj
      rw [ren_ids] at hj
      obtain ⟨k, hk, rfl⟩ := List.mem_map.1 hj
      simp only [entsOf_len]
      exact (idxN_spec (hin k hk)).1
    · cases a with
      | eptr j sz k c =>
        rw [AV.ren]
        intro e t xs hx
        obtain ⟨i', h5, h6⟩ := entsOf_get hx
        have hj := hin j (by simp [AV.ids])
        rw [(idxN_spec hj).2] at h5
        simp only [Option.some.injEq] at h5; subst h5
        rcases h6 with ⟨e0, h6, h7⟩ | h6
        · cases e0 with
          | row e1 t1 ys =>
            simp only [Ent.ren, Ent.row.injEq] at h7
            obtain ⟨rfl, rfl, h7⟩ := h7
            have := eq_of_heq h7; subst this
            exact h4 _ _ _ h6
          | blk _ _ => cases h7
          | map _ _ => cases h7
          | tmap _ _ _ => cases h7
          | drow _ _ _ _ _ => cases h7
          | pmap _ _ _ _ _ => cases h7
          | gone => cases h7
        · cases h6
      | _ => rw [AV.ren] <;> trivial
  · intro j e he hl a ha
    obtain ⟨i, h5, h6⟩ := entsOf_get he
    rcases h6 with ⟨e0, h6, rfl⟩ | rfl
    · rw [hd h5] at ha
      exact h.lives i e0 h6 (by rw [Ent.ren_live] at hl; exact hl) a ha
    · cases hl
  · have hk' := hp k (List.getElem?_eq_some_iff.1 hk).1
    refine ⟨by rw [hd hk']; exact (h.pins k r hk).1, ?_⟩
    simp only [entsOf_len]
    exact (List.getElem?_eq_some_iff.1 hk').1
  · intro j e he
    obtain ⟨i, h5, h6⟩ := entsOf_get he
    rcases h6 with ⟨e0, h6, rfl⟩ | rfl
    · have h3 := h.ents i e0 h6
      cases e0 with
      | blk e1 cs =>
        obtain ⟨g, c, a1, a2, a3, a4⟩ := h3
        refine ⟨g, c, (congrArg RA.ad (hd h5)).trans a1, a2, a3, a4.ren T fun k hk => hρ k (h2 k (idsH_at h6 (List.mem_of_getElem? h5) k hk))⟩
      | row e1 t xs =>
        obtain ⟨B, vals, a1, a2, a3, a4, a5⟩ := h3
        simp only [EntR, hd h5]; exact ⟨B, vals, a1, a2, a3, a4, a5⟩
      | map k es =>
        obtain ⟨g, l, c, a1, a2, a3, a4, a5⟩ := h3
        refine ⟨g, l, c, (congrArg RA.ad (hd h5)).trans a1, a2, a3, a4.ren T fun k hk => hρ k (h2 k (idsH_at h6 (List.mem_of_getElem? h5) k hk)), a5⟩
      | tmap k t m =>
        obtain ⟨g, l, c, a1, a2⟩ := h3
        exact ⟨g, l, c, (congrArg RA.ad (hd h5)).trans a1, a2⟩
      | drow e1 d fe xs op =>
        obtain ⟨B, vals, a1, a2, a3, a4, a5⟩ := h3
        simp only [Ent.ren, EntR, hd h5]
        exact ⟨B, vals, a1, a2, a3, a4, a5.renS T fun k hk => RSame.of (hρ k (h2 k (idsH_at h6 (List.mem_of_getElem? h5) k hk)))⟩
      | pmap k be d m op =>
        obtain ⟨g, l, c, bs, a1, a2, a3, a4, a5⟩ := h3
        simp only [Ent.ren, EntR, hd h5]
        exact ⟨g, l, c, bs, a1, a2, a3, a4.renS T fun k hk => RSame.of (hρ k (h2 k (idsH_at h6 (List.mem_of_getElem? h5) k hk))), a5⟩
      | gone => trivial
    · trivial
  · intro j e he k hk
    obtain ⟨i, h5, h6⟩ := entsOf_get he
    rcases h6 with ⟨e0, h6, rfl⟩ | rfl
    · rw [Ent.ren_cellIds] at hk
      obtain ⟨m, hm, rfl⟩ := List.mem_map.1 hk
      simp only [entsOf_len]
      exact (idxN_spec (h2 m (idsH_at h6 (List.mem_of_getElem? h5) m hm))).1
    · cases hk
  · intro j k e e' he he' hl hl' hjk a b ha hb
    obtain ⟨i, h5, h6⟩ := entsOf_get he
    obtain ⟨i', h5', h6'⟩ := entsOf_get he'
    rcases h6 with ⟨e0, h6, rfl⟩ | rfl
    · rcases h6' with ⟨e0', h6', rfl⟩ | rfl
      · rw [hd h5] at ha; rw [hd h5'] at hb
        rw [Ent.ren_live] at hl hl'
        exact h.apart i i' e0 e0' h6 h6' hl hl' (fun e => hjk (by subst e; exact nodupN_inj hn h5 h5')) a b ha hb
      · cases hl'
    · cases hl
theorem pinOk_spec {m : Nat} {ids : List Nat} (h : pinOk m ids = true) {k : Nat} (hk : k < m) : ids[k]? = some k := by
  unfold pinOk at h
  rw [List.all_eq_true] at h
  have := h k (List.mem_range.2 hk)
  split at this
  · rename_i j hj; rw [hj, Nat.eq_of_beq_eq_true this]
  · cases this
theorem trim_sound {w0 : World} {S0 : Ow} {st st' : St T} {F' : PF} {w : World} {m : Nat} {l : List Nat} (hm : S0.pin.length ≤ m) (h : Stands T w0 S0 st F' w) (ht : trim T m l st = some st') : Stands T w0 S0 st' F' w := by
  obtain ⟨S, φ, h⟩ := h
  unfold trim at ht
  simp only at ht
  split at ht
  · rename_i hb
    simp only [Bool.and_eq_true] at hb
    simp only [Option.some.injEq] at ht; subst ht
    exact ⟨S, _, h.renum _ (fun i a ha => keepA_get ha) hb.2.1 (fun k hk => pinOk_spec hb.1 (Nat.lt_of_lt_of_le hk hm)) (subN_spec hb.2.2.2.1) (subN_spec hb.2.2.2.2)⟩
  · cases ht
theorem ownNils_sound {w0 : World} {S0 : Ow} {F' : PF} {w : World} : ∀ (l : List (Nat × TypeId × Ty)) {st : St T}, Stands T w0 S0 st F' w → Stands T w0 S0 (ownNils T l st) F' w
  | [], _, h => h
  | (s, e, t) :: r, st, h => by
    unfold ownNils
    split
    · rename_i hs
      refine ownNils_sound r ?_
      obtain ⟨S, φ, h⟩ := h
      obtain ⟨v, h1, h2⟩ := h.fr s _ hs
      rw [VR] at h2; subst h2
      have hadd := h.addG (Chg.refl [] w) (by simp) (by simp) (fun _ _ _ _ _ _ => by simp) (S' := S) (fun _ h => h) (fun _ h => .inl h) (r := ⟨none, 0, 0, []⟩) (fun a h => by cases at_ad h) (fun a h => by cases at_ad h) (e := .row e t [])
        ⟨w.heap.size, [], by rw [setR_eq]; exact Own.nil _ _ _ _, by rw [setR_eq]; rfl, Nat.le_refl _, ⟨rfl, fun j c v h => by simp at h⟩, fun a ha => by rw [setR_eq] at ha; cases ha⟩ (fun j hj => by cases hj)
      exact ⟨S, _, hadd.seen h1 (a := .own st.H.length) (by rw [VR, setR_eq]) ⟨fun i hi => by simp [AV.ids] at hi; subst hi; simp, trivial⟩⟩
    · exact ownNils_sound r h
/-- an empty row more. -/
theorem Sim.addNil {w0 : World} {S0 : Ow} {F : AF T} {H : List (Ent T.U)} {F' : PF} {w : World} {S : List Nat} {φ : Nat → RA} (h : Sim T w0 S0 ⟨F, H⟩ F' w S φ) (e : TypeId) (t : Ty) : Sim T w0 S0 ⟨F, H ++ [.row e t []]⟩ F' w S (setR φ H.length ⟨none, 0, 0, []⟩) :=
  h.addG (Chg.refl [] w) (by simp) (by simp) (fun _ _ _ _ _ _ => by simp) (S' := S) (fun _ h => h) (fun _ h => .inl h) (r := ⟨none, 0, 0, []⟩) (fun a h => by cases at_ad h) (fun a h => by cases at_ad h) (e := .row e t [])
    ⟨w.heap.size, [], by rw [setR_eq]; exact Own.nil _ _ _ _, by rw [setR_eq]; rfl, Nat.le_refl _, ⟨rfl, fun j c v h => by simp at h⟩, fun a ha => by rw [setR_eq] at ha; cases ha⟩ (fun j hj => by cases hj)
theorem own_sl {w0 : World} {S0 : Ow} {F : AF T} {H : List (Ent T.U)} {F' : PF} {w : World} {S : List Nat} {φ : Nat → RA} (h : Sim T w0 S0 ⟨F, H⟩ F' w S φ) {i : Nat} {e : TypeId} {t : Ty} {xs : List (den T.U t)} (hi : H[i]? = some (.row e t xs)) {v : Value} (hv : VR T w S φ (.own i) v) : VR T w S φ (.sl i (szT T t) 0 xs.length) v := by
  obtain ⟨B, vals, o1, o2, o3, o4, o5⟩ := h.ents i _ hi
  rw [VR] at hv; subst hv
  rw [o2] at o1
  refine ⟨(φ i).ad, ?_, ?_, ?_, fun hn => o1.nil0 hn, fun _ => rfl⟩
  · show Value.slice (φ i).ad (φ i).n (φ i).cap = Value.slice (φ i).ad xs.length ((φ i).cap - 0)
    rw [o2]; rfl
  · show 0 + xs.length ≤ (φ i).cap
    rw [Nat.zero_add]; exact o1.le.1
  rcases o1.cases with ⟨_, hn, _⟩ | ⟨c, had, _⟩
  · exact .inl hn
  · refine .inr ⟨_, had, had.trans ?_⟩
    show some (⟨_, 0, none⟩ : Addr) = some ⟨_, 0 + 0 * _, none⟩
    rw [Nat.zero_mul]
/-- a row that lies in a cell becomes a slice of it. -/
theorem Sim.cellSl {w0 : World} {S0 : Ow} {F : AF T} {H : List (Ent T.U)} {F' : PF} {w : World} {S : List Nat} {φ : Nat → RA} (h : Sim T w0 S0 ⟨F, H⟩ F' w S φ) {i c k : Nat} {e0 e : TypeId} {cs : List (AV T.U)} {t : Ty} {xs : List (den T.U t)}
    (hi : H[i]? = some (.blk e0 cs)) (hc : cs[c]? = some (.own k)) (hk : H[k]? = some (.row e t xs)) : Sim T w0 S0 ⟨F, H.set i (.blk e0 (cs.set c (.sl k (szT T t) 0 xs.length)))⟩ F' w S φ := by
  obtain ⟨g, cv, a1, a2, a3, a4⟩ := h.ents i _ hi
  refine h.upd (i := i) (e0 := .blk e0 cs) (e := .blk e0 (cs.set c (.sl k (szT T t) 0 xs.length))) (Tc := []) (w' := w) hi rfl (Chg.refl [] w) (by simp)
    ⟨g, cv, a1, a2, a3, BR.swap (b := .sl k (szT T t) 0 xs.length) rfl rfl (fun v hv => own_sl h hk hv) a4 hc⟩ ?_ (by intro _ _ _ h; cases h)
  intro j hj
  rw [Ent.cellIds] at hj
  obtain ⟨b, hb, hjb⟩ := idsL_of hj
  rcases List.mem_or_eq_of_mem_set hb with hb | hb
  · exact h.eids i _ hi j (by rw [Ent.cellIds]; exact idsL_mem hb j hjb)
  · subst hb
    have hm : (AV.own k : AV T.U) ∈ cs := List.mem_of_getElem? hc
    simp only [AV.ids, List.mem_singleton] at hjb; subst hjb
    exact h.eids i _ hi j (by rw [Ent.cellIds]; exact idsL_mem hm j (by simp [AV.ids]))
theorem ownNilsB_sound {w0 : World} {S0 : Ow} {F : AF T} {F' : PF} {w : World} : ∀ (l : List (Nat × Nat × TypeId × Ty)) {H : List (Ent T.U)}, Stands T w0 S0 ⟨F, H⟩ F' w → Stands T w0 S0 ⟨F, ownNilsB T l H⟩ F' w
  | [], _, h => h
  | (i, c, e, t) :: r, H, h => by
    unfold ownNilsB
    split
    · exact ownNilsB_sound r (closeL_sound _ h)
    split
    · rename_i e0 cs hi
      split
      · rename_i hc
        refine ownNilsB_sound r ?_
        obtain ⟨S, φ, h⟩ := h
        have h1 := h.addNil e t
        have hil := (List.getElem?_eq_some_iff.1 hi).1
        obtain ⟨g, cv, a1, a2, a3, a4⟩ := h1.ents i _ (by rw [List.getElem?_append_left hil]; exact hi)
        have h2 := h1.upd (i := i) (e0 := .blk e0 cs) (e := .blk e0 (cs.set c (.own H.length))) (Tc := []) (w' := w) (by rw [List.getElem?_append_left hil]; exact hi) rfl (Chg.refl [] w) (by simp)
          ⟨g, cv, a1, a2, a3, BR.swap (b := .own H.length) rfl rfl (fun v hv => by rw [VR] at hv; subst hv; rw [VR, setR_eq]) a4 hc⟩
          (by
            intro j hj
            rw [Ent.cellIds] at hj
            obtain ⟨b, hb, hjb⟩ := idsL_of hj
            rcases List.mem_or_eq_of_mem_set hb with hb | hb
            · have := h.eids i _ hi j (by rw [Ent.cellIds]; exact idsL_mem hb j hjb)
              simp at this ⊢; omega
            · subst hb; simp [AV.ids] at hjb; subst hjb; simp) (by intro _ _ _ h; cases h)
        have hset : (H ++ [Ent.row e t []]).set i (.blk e0 (cs.set c (.own H.length))) = H.set i (.blk e0 (cs.set c (.own H.length))) ++ [.row e t []] := by
          rw [List.set_append_left _ _ hil]
        rw [hset] at h2
        exact ⟨S, _, h2⟩
      · rename_i k hc
        split
        · split
          · rename_i e' t' xs hk
            obtain ⟨S, φ, h⟩ := h
            exact ownNilsB_sound r ⟨S, φ, h.cellSl hi hc hk⟩
          · exact ownNilsB_sound r h
        · exact ownNilsB_sound r h
      · exact ownNilsB_sound r h
    · exact ownNilsB_sound r h
end
end Go.X
