/- A function whose code was walked, known by shapes: what is handed to it, what it leaves and answers. Nothing here is about one program. -/
import Derived.Test.YtjjlcenmifcaeaaG4
namespace Go.X
open Go.RowKit Go.V

structure GSpec (T : Tab) where
  ps : List Sh
  post : List PE
  rs : List Sh
  g : denL T ps → Option (denP T post × denL T rs)
section
variable (T : Tab) (P : Program)
def idsO : Src → List Nat
  | [] => []
  | some i :: r => i :: idsO r
  | none :: r => idsO r
def rowsOk (H : List (Ent T.U)) : List Nat → List PE → Bool
  | [], ps => match ps with | [] => true | _ :: _ => false
  | i :: r, ps => match ps with
    | [] => false
    | p :: q => (match p with | .row e t => (rowAt T H e t i).isSome | _ => true) && rowsOk H r q
/-- A function does as it is said, and changes nothing but what it was handed. -/
def GOk (f : FuncId) (sp : GSpec T) : Prop := ∀ x y, sp.g x = some y → ∀ (w : World) (S : List Nat) (φ : Nat → RA), Sim T w ⟨blksN φ (cntL sp.ps), S, (List.range (cntL sp.ps)).map φ⟩ ⟨[], mkEL T id sp.ps x 0⟩ [] w S φ →
  ∀ vs : List Value, VRL T w S φ (mkAL T id sp.ps x 0) vs → (∀ a ∈ mkAL T id sp.ps x 0, okA (mkEL T id sp.ps x 0) a) →
  Calls P f vs.toArray w fun e w' => match e with
    | .returned v => ∃ (F1 : PF) (S1 : List Nat) (φ1 : Nat → RA) (us : List Value), Sim T w ⟨blksN φ (cntL sp.ps), S, (List.range (cntL sp.ps)).map φ⟩ ⟨[], mkP T id sp.post y.1 sp.post.length ++ (mkPN T id sp.post y.1 sp.post.length ++ mkEL T id sp.rs y.2 (sp.post.length + cntP sp.post))⟩ F1 w' S1 φ1 ∧
        VRL T w' S1 φ1 (mkAL T id sp.rs y.2 (sp.post.length + cntP sp.post)) us ∧ v = packV us ∧ ∀ i ∈ idsL (mkAL T id sp.rs y.2 (sp.post.length + cntP sp.post)), i < sp.post.length + (cntP sp.post + cntL sp.rs)
    | _ => False
def GSpec.toCall {T : Tab} (sp : GSpec T) (alt : CallSpec T) : CallSpec T where
  call := fun as H K Kp => match rdSL T H sp.ps as [] with
    | some (x, l) => match nodupN (idsO l) && rowsOk T H (idsO l) sp.post with
      | true => obind (sp.g x) fun y => K (packR T (mkAL T (σJ (idsO l) H.length) sp.rs y.2 (sp.post.length + cntP sp.post))) (setIo T H (idsO l) (mkP T (σJ (idsO l) H.length) sp.post y.1 sp.post.length) ++ (mkPN T (σJ (idsO l) H.length) sp.post y.1 sp.post.length ++ mkEL T (σJ (idsO l) H.length) sp.rs y.2 (sp.post.length + cntP sp.post)))
      | false => none
    | none => alt.call as H K Kp
  q := alt.q
  isq := alt.isq
  wr := fun as H => match rdSL T H sp.ps as [] with | some (_, l) => idsO l | none => alt.wr as H
def noCall : CallSpec T where
  call := fun _ _ _ _ => none
  q := fun _ _ _ => none
  isq := false
  wr := fun _ _ => []
/-- where nothing is answered that stands for a row: a row that is empty. -/
def fixR : List (Nat × TypeId × Ty × Bool) → List (AV T.U) → List (Ent T.U) → List (AV T.U) × List (Ent T.U)
  | [], as, H => (as, H)
  | (j, e, t, b) :: r, as, H => match as[j]? with
    | some (.raw (.slice none 0 0)) => fixR r (as.set j (match b with | true => .own H.length | false => .sl H.length (szT T t) 0 0)) (H ++ [.row e t []])
    | _ => fixR r as H
/-- rows that are answered, as slices of them. -/
def fixO : List Nat → List (AV T.U) → List (Ent T.U) → List (AV T.U)
  | [], as, _ => as
  | j :: r, as, H => match as[j]? with
    | some (.own i) => match H[i]? with
      | some (.row _ t xs) => fixO r (as.set j (.sl i (szT T t) 0 xs.length)) H
      | _ => fixO r as H
    | _ => fixO r as H
/-- What is told of nothing in results, in what was handed; of rows that are answered; of results that become lists, rows. -/
structure Nl where
  rs : List (Nat × TypeId × Ty × Bool)
  ow : List Nat
  bn : List (Nat × Nat × TypeId × Ty)
  z : List (Nat × Ty)
  w : List Nat
def leafZ (post : List PE) (rs : List Sh) (as : List (AV T.U)) (H : List (Ent T.U)) : Option (denP T post × denL T rs) :=
  match rdP T H post 0 (srcP post 0) with
  | some (y, l) => match rdSL T H rs as l with
    | some (z, l') => match nodupO l' with | true => some (y, z) | false => none
    | none => none
  | none => none
def leafG (fn : Func) (nl : Nl) (post : List PE) (rs : List Sh) (st0 : St T) : Option (denP T post × denL T rs) :=
  match resA T P st0 fn.results.toList with
  | some as0 => match fixW T post.length nl.w as0 st0.H with
    | some (as1, H1) =>
      let p := fixR T nl.rs as1 (ownNilsB T nl.bn H1)
      fixZ T nl.z (fixO T nl.ow p.1 p.2) p.2 (leafZ T post rs)
    | none => none
  | none => none
def leafsG (fn : Func) (nl : Nl) (post : List PE) (rs : List Sh) : Ks T (denP T post × denL T rs) := ⟨leafG T P fn nl post rs, fun _ _ => none, leafG T P fn nl post rs, fun _ _ => none⟩
noncomputable def topG (C : Ctx T) (cuts : List (Pos × Cut)) (fn : Func) (c : Code) (nl : Nl) (ps : List Sh) (post : List PE) (rs : List Sh) (m : Nat) (x : denL T ps) : Option (denP T post × denL T rs) :=
  evC P C fn.ntmps cuts (run P C fn.ntmps cuts c (leafsG T P fn nl post rs) m) c [] (leafsG T P fn nl post rs) ⟨argFA T (mkAL T id ps x 0) 0, mkEL T id ps x 0⟩
end
section
variable {T : Tab} {P : Program} {w w' : World} {S S' : List Nat} {φ φ' : Nat → RA} {w0 : World} {S0 : Ow} {F : AF T} {H : List (Ent T.U)} {F' : PF}
theorem idsO_map : ∀ l : List Nat, idsO (l.map some) = l
  | [] => rfl
  | i :: r => by rw [List.map_cons, idsO, idsO_map r]
mutual
theorem mkE_len (σ : Nat → Nat) : ∀ (s : Sh) (x : s.den T) (k : Nat), (mkE T σ s x k).length = s.cnt
  | .row e t, x, k => rfl
  | .slr e t, x, k => rfl
  | .ptr o e cs, x, k => (congrArg (· + 1) (mkEL_len σ cs x (k + 1))).trans (Nat.add_comm _ _)
  | .slb sz n e cs, x, k => (congrArg (· + 1) (mkEL_len σ cs x (k + 1))).trans (Nat.add_comm _ _)
  | .fn f a b, x, k => by show (mkEL T σ a x.1 k ++ mkEL T σ b x.2 (k + cntL a)).length = cntL a + cntL b; rw [List.length_append, mkEL_len σ a, mkEL_len σ b]
  | .agg cs, x, k => mkEL_len σ cs x k
  | .ifc t s, x, k => mkE_len σ s x k
  | .val _, x, k => rfl
  | .at_ _ _, x, k => rfl
  | .own _, x, k => rfl
  | .part _ _, x, k => rfl
  | .nils, x, k => rfl
  | .nilp, x, k => rfl
  | .lit _ _, x, k => rfl
  | .arr _ _, x, k => rfl
  | .lp _ _, x, k => rfl
  | .asp _ _ _ _, x, k => rfl
  | .asn e cs o sz n, x, k => (congrArg (· + 1) (mkEL_len σ cs x.1 (k + 1))).trans (Nat.add_comm _ _)
  | .ap _ _ _ _ _, x, k => rfl
  | .mp kd keys cs, x, k => (congrArg (· + 1) (mkEL_len σ cs x (k + 1))).trans (Nat.add_comm _ _)
  | .mpo _, x, k => rfl
  | .rw _, x, k => rfl
  | .lpk _ _ _, x, k => rfl
  | .tm _ _, x, k => rfl
  | .dr _ _ _, x, k => rfl
  | .pm _ _ _, x, k => rfl
theorem mkEL_len (σ : Nat → Nat) : ∀ (l : List Sh) (x : denL T l) (k : Nat), (mkEL T σ l x k).length = cntL l
  | [], x, k => rfl
  | s :: r, x, k => by show (mkE T σ s x.1 k ++ mkEL T σ r x.2 (k + s.cnt)).length = s.cnt + cntL r; rw [List.length_append, mkE_len σ s, mkEL_len σ r]
end
theorem mkP_len (σ : Nat → Nat) : ∀ (ps : List PE) (x : denP T ps) (k : Nat), (mkP T σ ps x k).length = ps.length
  | [], x, k => rfl
  | p :: r, x, k => by show (mkP T σ r x.2 (k + p.cnt)).length + 1 = r.length + 1; rw [mkP_len σ r]
theorem mkPN_len (σ : Nat → Nat) : ∀ (ps : List PE) (x : denP T ps) (k : Nat), (mkPN T σ ps x k).length = cntP ps
  | [], x, k => rfl
  | p :: r, x, k => by
    show (mkP1N T σ p x.1 k ++ mkPN T σ r x.2 (k + p.cnt)).length = p.cnt + cntP r
    rw [List.length_append, mkPN_len σ r]
    cases p with
    | gone => rfl
    | row e t => rfl
    | tmap k t => rfl
    | dr e d fe => rfl
    | pm k be d => rfl
    | blk e cs => exact congrArg (· + cntP r) (mkEL_len σ cs x.1 k)
    | map kd keys cs => exact congrArg (· + cntP r) (mkEL_len σ cs x.1 k)
mutual
theorem mkA_ren (τ : Nat → Nat) : ∀ (s : Sh) (x : s.den T) (k : Nat), (mkA T id s x k).ren τ = mkA T τ s x k
  | .val t, x, k => toAV_ren t x τ
  | .row e t, x, k => rfl
  | .slr e t, x, k => rfl
  | .ptr o e cs, x, k => rfl
  | .slb sz n e cs, x, k => rfl
  | .fn f a b, x, k => by
    show AV.fn (.func f) (renL τ (mkAL T id a x.1 k)) (renL τ (mkAL T id b x.2 (k + cntL a))) = .fn (.func f) (mkAL T τ a x.1 k) (mkAL T τ b x.2 (k + cntL a))
    rw [mkAL_ren τ a, mkAL_ren τ b]
  | .agg cs, x, k => congrArg AV.agg (mkAL_ren τ cs x k)
  | .ifc t s, x, k => congrArg (AV.ifc t) (mkA_ren τ s x k)
  | .at_ _ _, x, k => rfl
  | .own _, x, k => rfl
  | .part _ _, x, k => rfl
  | .nils, x, k => rfl
  | .nilp, x, k => rfl
  | .lit _ _, x, k => rfl
  | .arr _ _, x, k => rfl
  | .lp _ _, x, k => rfl
  | .asp _ _ _ _, x, k => rfl
  | .asn _ _ _ _ _, x, k => rfl
  | .ap _ _ _ _ _, x, k => rfl
  | .mp _ _ _, x, k => rfl
  | .mpo _, x, k => rfl
  | .rw _, x, k => rfl
  | .lpk _ _ _, x, k => rfl
  | .tm _ _, x, k => rfl
  | .dr _ _ _, x, k => rfl
  | .pm _ _ _, x, k => rfl
theorem mkAL_ren (τ : Nat → Nat) : ∀ (l : List Sh) (x : denL T l) (k : Nat), renL τ (mkAL T id l x k) = mkAL T τ l x k
  | [], x, k => rfl
  | s :: r, x, k => by
    show (mkA T id s x.1 k).ren τ :: renL τ (mkAL T id r x.2 (k + s.cnt)) = mkA T τ s x.1 k :: mkAL T τ r x.2 (k + s.cnt)
    rw [mkA_ren τ s, mkAL_ren τ r]
end
theorem cons_eq {α : Type} {a b : α} {l m : List α} (h : a = b) (h' : l = m) : a :: l = b :: m := by rw [h, h']
theorem app_eq {α : Type} {a b l m : List α} (h : a = b) (h' : l = m) : a ++ l = b ++ m := by rw [h, h']
mutual
theorem mkE_ren (τ : Nat → Nat) : ∀ (s : Sh) (x : s.den T) (k : Nat), (mkE T id s x k).map (Ent.ren τ) = mkE T τ s x k
  | .row e t, x, k => rfl
  | .slr e t, x, k => rfl
  | .ptr o e cs, x, k => cons_eq (congrArg (Ent.blk e) (mkAL_ren τ cs x (k + 1))) (mkEL_ren τ cs x (k + 1))
  | .slb sz n e cs, x, k => cons_eq (congrArg (Ent.blk e) (mkAL_ren τ cs x (k + 1))) (mkEL_ren τ cs x (k + 1))
  | .fn f a b, x, k => by
    show (mkEL T id a x.1 k ++ mkEL T id b x.2 (k + cntL a)).map (Ent.ren τ) = mkEL T τ a x.1 k ++ mkEL T τ b x.2 (k + cntL a)
    rw [List.map_append, mkEL_ren τ a, mkEL_ren τ b]
  | .agg cs, x, k => mkEL_ren τ cs x k
  | .ifc t s, x, k => mkE_ren τ s x k
  | .val _, x, k => rfl
  | .at_ _ _, x, k => rfl
  | .own _, x, k => rfl
  | .part _ _, x, k => rfl
  | .nils, x, k => rfl
  | .nilp, x, k => rfl
  | .lit _ _, x, k => rfl
  | .arr _ _, x, k => rfl
  | .lp _ _, x, k => rfl
  | .asp _ _ _ _, x, k => rfl
  | .asn e cs _ _ _, x, k => cons_eq (congrArg (Ent.blk e) (mkAL_ren τ cs x.1 (k + 1))) (mkEL_ren τ cs x.1 (k + 1))
  | .ap _ _ _ _ _, x, k => rfl
  | .mp kd keys cs, x, k => cons_eq (congrArg (Ent.map kd) ((zipK_ren τ keys _).trans (congrArg (zipK keys) (mkAL_ren τ cs x (k + 1))))) (mkEL_ren τ cs x (k + 1))
  | .mpo _, x, k => rfl
  | .rw _, x, k => rfl
  | .lpk _ _ _, x, k => rfl
  | .tm _ _, x, k => rfl
  | .dr _ _ _, x, k => rfl
  | .pm _ _ _, x, k => rfl
theorem mkEL_ren (τ : Nat → Nat) : ∀ (l : List Sh) (x : denL T l) (k : Nat), (mkEL T id l x k).map (Ent.ren τ) = mkEL T τ l x k
  | [], x, k => rfl
  | s :: r, x, k => by
    show (mkE T id s x.1 k ++ mkEL T id r x.2 (k + s.cnt)).map (Ent.ren τ) = mkE T τ s x.1 k ++ mkEL T τ r x.2 (k + s.cnt)
    rw [List.map_append, mkE_ren τ s, mkEL_ren τ r]
end
theorem mkP_ren (τ : Nat → Nat) : ∀ (ps : List PE) (x : denP T ps) (k : Nat), (mkP T id ps x k).map (Ent.ren τ) = mkP T τ ps x k
  | [], x, k => rfl
  | p :: r, x, k => by
    show (mkP1 T id p x.1 k).ren τ :: (mkP T id r x.2 (k + p.cnt)).map (Ent.ren τ) = mkP1 T τ p x.1 k :: mkP T τ r x.2 (k + p.cnt)
    rw [mkP_ren τ r]
    cases p with
    | gone => rfl
    | row e t => rfl
    | tmap k t => rfl
    | dr e d fe => rfl
    | pm k be d => rfl
    | blk e cs => exact cons_eq (congrArg (Ent.blk e) (mkAL_ren τ cs x.1 k)) rfl
    | map kd keys cs => exact cons_eq (congrArg (Ent.map kd) ((zipK_ren τ keys _).trans (congrArg (zipK keys) (mkAL_ren τ cs x.1 k)))) rfl
theorem mkPN_ren (τ : Nat → Nat) : ∀ (ps : List PE) (x : denP T ps) (k : Nat), (mkPN T id ps x k).map (Ent.ren τ) = mkPN T τ ps x k
  | [], x, k => rfl
  | p :: r, x, k => by
    show (mkP1N T id p x.1 k ++ mkPN T id r x.2 (k + p.cnt)).map (Ent.ren τ) = mkP1N T τ p x.1 k ++ mkPN T τ r x.2 (k + p.cnt)
    rw [List.map_append, mkPN_ren τ r]
    cases p with
    | gone => rfl
    | row e t => rfl
    | tmap k t => rfl
    | dr e d fe => rfl
    | pm k be d => rfl
    | blk e cs => exact app_eq (mkEL_ren τ cs x.1 k) rfl
    | map kd keys cs => exact app_eq (mkEL_ren τ cs x.1 k) rfl
theorem mkA_noEp (σ : Nat → Nat) (s : Sh) (x : s.den T) (k : Nat) : notEp (mkA T σ s x k) = true := by
  cases s with
  | val t => exact toAV_notEp t x
  | _ => rfl
theorem mkAL_noEp (σ : Nat → Nat) : ∀ (l : List Sh) (x : denL T l) (k : Nat), ∀ a ∈ mkAL T σ l x k, notEp a = true
  | [], x, k, a, h => by cases h
  | s :: r, x, k, a, h => by
    have h : a ∈ mkA T σ s x.1 k :: mkAL T σ r x.2 (k + s.cnt) := h
    rcases List.mem_cons.1 h with rfl | h
    · exact mkA_noEp σ s x.1 k
    · exact mkAL_noEp σ r x.2 _ a h
theorem renL_ids_le {ρ : Nat → Nat} {n : Nat} {as : List (AV T.U)} (h : ∀ i ∈ idsL as, ρ i < n) : ∀ i ∈ idsL (renL ρ as), i < n := by
  intro i hi
  rw [renL_ids] at hi
  obtain ⟨j, hj, rfl⟩ := List.mem_map.1 hi
  exact h j hj
theorem rowsOk_spec {ids : List Nat} : ∀ {post : List PE}, rowsOk T H ids post = true → ids.length = post.length ∧ ∀ (k i : Nat) (e : TypeId) (t : Ty), ids[k]? = some i → post[k]? = some (.row e t) → ∃ xs, H[i]? = some (.row e t xs) := by
  induction ids with
  | nil =>
    intro post h
    cases post with
    | nil => exact ⟨rfl, fun k i e t h => by simp at h⟩
    | cons _ _ => cases h
  | cons j r ih =>
    intro post h
    cases post with
    | nil => cases h
    | cons p q =>
      unfold rowsOk at h
      simp only [Bool.and_eq_true] at h
      obtain ⟨h1, h2⟩ := ih h.2
      refine ⟨by simp [h1], fun k i e t hk hp => ?_⟩
      cases k with
      | zero =>
        simp at hk hp; subst hk; subst hp
        obtain ⟨xs, hx⟩ := Option.isSome_iff_exists.1 h.1
        exact ⟨xs, rowAt_spec hx⟩
      | succ k => exact h2 k i e t (by simpa using hk) (by simpa using hp)
theorem mkP_row {σ : Nat → Nat} : ∀ {ps : List PE} {x : denP T ps} {k j : Nat} {e : TypeId} {t : Ty} {ys : List (den T.U t)}, (mkP T σ ps x k)[j]? = some (.row e t ys) → ps[j]? = some (.row e t)
  | [], x, k, j, e, t, ys, h => by simp [mkP] at h
  | p :: r, x, k, j, e, t, ys, h => by
    have h : (mkP1 T σ p x.1 k :: mkP T σ r x.2 (k + p.cnt))[j]? = some (.row e t ys) := h
    cases j with
    | succ j => simp only [List.getElem?_cons_succ] at h ⊢; exact mkP_row h
    | zero =>
      simp only [List.getElem?_cons_zero, Option.some.injEq] at h ⊢
      cases p with
      | gone => cases h
      | row e' t' =>
        simp only [mkP1, Ent.row.injEq] at h
        obtain ⟨rfl, rfl, _⟩ := h; rfl
      | blk _ _ => cases h
      | map _ _ _ => cases h
      | tmap _ _ => cases h
      | dr _ _ _ => cases h
      | pm _ _ _ => cases h
theorem soundCall_G {f : FuncId} {sp : GSpec T} {alt : CallSpec T} (hok : GOk T P f sp) (ha : SoundCall T P f alt) : SoundCall T P f (sp.toCall alt) := by
  intro R as H K Kp r hr w0 S0 F F' w S φ h vs hvs has
  simp only [GSpec.toCall] at hr
  split at hr
  · rename_i x l hx
    split at hr
    · rename_i hb
      simp only [Bool.and_eq_true] at hb
      obtain ⟨hn, hro⟩ := hb
      obtain ⟨y, hy, hK⟩ := obind_some hr
      obtain ⟨new, g1, g2, g3⟩ := rdSL_spec sp.ps as [] l x hx
      have hl : l = new.map some := by rw [g1.eq]; rfl
      have hids : idsO l = new := by rw [hl, idsO_map]
      rw [hids] at hn hro hK
      have hno : nodupO l = true := by
        rw [hl]
        clear hK hro hids hx g1 g2 g3 hl
        induction new with
        | nil => rfl
        | cons i r ih =>
          rw [nodupN, Bool.and_eq_true, Bool.not_eq_true'] at hn
          rw [List.map_cons, nodupO, ih hn.2, Bool.and_true, Bool.not_eq_true']
          cases hm : memO i (r.map some) with
          | false => rfl
          | true =>
            have := memO_iff.1 hm
            obtain ⟨j, hj, e⟩ := List.mem_map.1 this
            simp only [Option.some.injEq] at e; subst e
            rw [memN_iff.2 hj] at hn; exact absurd hn.1 (by simp)
      obtain ⟨q1, q2⟩ := g3 _ (places_idx hno)
      obtain ⟨hlen, hrow⟩ := rowsOk_spec hro
      have hnewlen : new.length = cntL sp.ps := g2
      -- what is handed, seen anew
      obtain ⟨c0, x0, p0⟩ := S0
      have hs := (h.unpin.src (l := l) hno (fun k hk => by simp at hk) (fun i e hi he j hj => by
        rw [hl] at hi
        obtain ⟨i', hi', e'⟩ := List.mem_map.1 hi
        simp only [Option.some.injEq] at e'; subst e'
        obtain ⟨e0, h1, _, h3⟩ := g1.ents i' hi'
        rw [he] at h1; simp only [Option.some.injEq] at h1; subst h1
        exact h3 j hj))
      rw [show entsO T H (fun i => idxO i l) l = entsOf T H (fun i => idxO i l) new by rw [hl, entsO_map]] at hs
      have hs := (hs.imp q2).start
      rw [mkEL_len, ← hnewlen] at hs
      have hφc : ∀ k i, new[k]? = some i → φO l φ k = φ i := fun k i hk => φO_at (by rw [hl, List.getElem?_map, hk]; rfl)
      have hvs' : VRL T w S (φO l φ) (mkAL T id sp.ps x 0) vs := q1.vrl (VRL.ren T (fun i hi => φO_idx (g1.ids i hi)) hvs)
      have hoks : ∀ a ∈ mkAL T id sp.ps x 0, okA (mkEL T id sp.ps x 0) a := fun a ha => okA_notEp (mkAL_noEp id _ _ _ a ha) fun i hi => by
        have hi := idsL_mem ha i hi
        rw [show idsL (mkAL T id sp.ps x 0) = _ from q1.ids] at hi
        rw [mkEL_len, ← hnewlen]
        refine renL_ids_le (fun j hj => ?_) i hi
        have := (List.getElem?_eq_some_iff.1 (idxO_spec (g1.ids j hj))).1
        rw [hl, List.length_map] at this
        rw [hl]; exact this
      refine (hok x y hy w S (φO l φ) (by rw [← hnewlen]; exact hs) vs hvs' hoks).mono fun e w' hR => ?_
      cases e with
      | returned v =>
        obtain ⟨F1, S1, φ1, us, k1, k2, rfl, k3⟩ := hR
        rw [← hnewlen] at k1
        obtain ⟨φ2, m1, m2⟩ := h.join hn (fun i hi => by obtain ⟨e, a, b, _⟩ := g1.ents i hi; exact ⟨e, a, b⟩) hφc k1 (by rw [mkP_len, hlen]) (fun k i e t ys hk hp => hrow k i e t hk (mkP_row hp))
        rw [mkP_ren, List.map_append, mkPN_ren, mkEL_ren] at m1
        have hv2 : VRL T w' S1 φ2 (mkAL T (σJ new H.length) sp.rs y.2 (sp.post.length + cntP sp.post)) us := by
          rw [← mkAL_ren]
          rw [mkP_len, List.length_append, mkPN_len, mkEL_len] at m2
          generalize mkAL T id sp.rs y.2 (sp.post.length + cntP sp.post) = rs at k2 k3
          clear hK m1 k1
          induction rs generalizing us with
          | nil => cases us <;> exact k2
          | cons a r ih =>
            match us, k2 with
            | u :: us, k2 =>
              rw [renL]
              exact ⟨m2 a u k2.1 fun i hi => k3 i (by rw [idsL]; exact List.mem_append.2 (.inl hi)), ih _ k2.2 fun i hi => k3 i (by rw [idsL]; exact List.mem_append.2 (.inr hi))⟩
        refine ⟨_, _, hK, S1, φ2, m1, pack_rel hv2, ?_⟩
        have hlt : ∀ i ∈ idsL (mkAL T (σJ new H.length) sp.rs y.2 (sp.post.length + cntP sp.post)), i < (setIo T H new (mkP T (σJ new H.length) sp.post y.1 sp.post.length) ++ (mkPN T (σJ new H.length) sp.post y.1 sp.post.length ++ mkEL T (σJ new H.length) sp.rs y.2 (sp.post.length + cntP sp.post))).length := by
          rw [← mkAL_ren]
          refine renL_ids_le fun j hj => ?_
          have hj := k3 j hj
          rw [List.length_append, List.length_append, setIo_len, mkPN_len, mkEL_len]
          by_cases hlt : j < new.length
          · have hs := σJ_lo (n := H.length) hlt
            obtain ⟨e, h1, _, _⟩ := g1.ents _ (List.mem_of_getElem? hs)
            have := (List.getElem?_eq_some_iff.1 h1).1
            omega
          · rw [σJ_hi (by omega)]; omega
        have hne : notEp (packR T (mkAL T (σJ new H.length) sp.rs y.2 (sp.post.length + cntP sp.post))) = true := by
          unfold packR
          split
          · rename_i a hl; exact mkAL_noEp (σJ new H.length) sp.rs y.2 _ a (by rw [hl]; simp)
          · rfl
        refine okA_notEp hne fun i hi => hlt i ?_
        unfold packR at hi
        split at hi
        · rename_i a hl; rw [hl, idsL]; exact List.mem_append.2 (.inl hi)
        · rw [AV.ids] at hi; exact hi
      | panicked ch => exact hR.elim
      | outgrown => exact hR.elim
    · cases hr
  · exact ha as H K Kp r hr w0 S0 F F' w S φ h vs hvs has
theorem detC_G {sp : GSpec T} {alt : CallSpec T} (ha : DetC alt) : DetC (sp.toCall alt) := by
  intro R as H K Kp r hr
  simp only [GSpec.toCall] at hr
  split at hr
  · rename_i x l hx
    split at hr
    · rename_i hb
      obtain ⟨y, hy, hK⟩ := obind_some hr
      simp only [Bool.and_eq_true] at hb
      obtain ⟨hlen, hrow⟩ := rowsOk_spec hb.2
      refine .inl ⟨_, _, hK, ?_, fun K' Kp' => by simp only [GSpec.toCall, hx, hb.1, hb.2, Bool.and_self, hy, obind]⟩
      have hw : (GSpec.toCall sp alt).wr as H = idsO l := by simp only [GSpec.toCall, hx]
      rw [hw]
      have hl : (mkP T (σJ (idsO l) H.length) sp.post y.1 sp.post.length).length = (idsO l).length := by rw [mkP_len, hlen]
      refine ⟨by rw [List.length_append, setIo_len]; omega, fun e he hn => ?_, fun e ty t ys he h => ?_⟩
      · rw [List.getElem?_append_left (by rw [setIo_len]; exact he)]
        obtain ⟨f, hf⟩ : ∃ f, (setIo T H (idsO l) (mkP T (σJ (idsO l) H.length) sp.post y.1 sp.post.length))[e]? = some f := ⟨_, List.getElem?_eq_getElem (by rw [setIo_len]; exact he)⟩
        rcases setIo_get _ _ H hl hf with ⟨k, g1, _⟩ | ⟨_, g2⟩
        · exact absurd (List.mem_of_getElem? g1) hn
        · rw [hf, g2]
      · rw [List.getElem?_append_left (by rw [setIo_len]; exact he)] at h
        rcases setIo_get _ _ H hl h with ⟨k, g1, g2⟩ | ⟨_, g2⟩
        · exact hrow k e ty t g1 (mkP_row g2)
        · exact ⟨ys, g2⟩
    · cases hr
  · rename_i hx
    have hw : (GSpec.toCall sp alt).wr as H = alt.wr as H := by simp only [GSpec.toCall, hx]
    rcases ha as H K Kp r hr with ⟨a, H1, h1, h2, h3⟩ | ⟨a, H1, h1, h2, h3⟩
    · exact .inl ⟨a, H1, h1, by rw [hw]; exact h2, fun K' Kp' => by simp only [GSpec.toCall, hx, h3]⟩
    · exact .inr ⟨a, H1, h1, by rw [hw]; exact h2, fun K' Kp' => by simp only [GSpec.toCall, hx, h3]⟩
theorem fixR_sound {w0 : World} {S0 : Ow} {F : AF T} {F' : PF} {w : World} {S : List Nat} : ∀ (l : List (Nat × TypeId × Ty × Bool)) {as : List (AV T.U)} {us : List Value} {H : List (Ent T.U)} {φ : Nat → RA}, Sim T w0 S0 ⟨F, H⟩ F' w S φ → (∀ i ∈ idsL as, i < H.length) → VRL T w S φ as us →
    ∃ φ', Sim T w0 S0 ⟨F, (fixR T l as H).2⟩ F' w S φ' ∧ VRL T w S φ' (fixR T l as H).1 us
  | [], as, us, H, φ, h, hi, hv => ⟨φ, h, hv⟩
  | (j, e, t, b) :: r, as, us, H, φ, h, hi, hv => by
    unfold fixR
    split
    · rename_i ha
      obtain ⟨v, hu, hvr⟩ := hv.get T ha
      rw [VR] at hvr; subst hvr
      have h1 := h.addNil e t
      have hv1 : VRL T w S (setR φ H.length ⟨none, 0, 0, []⟩) as us := hv.phi fun i hm => setR_ne (by have := hi i hm; omega)
      have hnew : VR T w S (setR φ H.length ⟨none, 0, 0, []⟩) (match b with | true => AV.own H.length | false => .sl H.length (szT T t) 0 0) (.slice none 0 0) := by
        cases b with
        | true => rw [VR, setR_eq]
        | false => rw [VR, setR_eq]; exact ⟨none, rfl, Nat.le_refl _, .inl rfl, fun _ => ⟨rfl, rfl⟩, fun _ => rfl⟩
      have hs := hv1.set T j hnew
      rw [show us.set j (.slice none 0 0) = us by
        obtain ⟨hlt, hg⟩ := List.getElem?_eq_some_iff.1 hu
        rw [← hg, List.set_getElem_self]] at hs
      refine fixR_sound r h1 (fun i hm => ?_) hs
      obtain ⟨a, ha', hia⟩ := idsL_of hm
      rcases List.mem_or_eq_of_mem_set ha' with ha' | ha'
      · have := hi i (idsL_mem ha' i hia); simp; omega
      · subst ha'; cases b <;> simp [AV.ids] at hia <;> subst hia <;> simp
    · exact fixR_sound r h hi hv
theorem fixO_sound {w0 : World} {S0 : Ow} {F : AF T} {F' : PF} {w : World} {S : List Nat} {H : List (Ent T.U)} {φ : Nat → RA} (h : Sim T w0 S0 ⟨F, H⟩ F' w S φ) : ∀ (l : List Nat) {as : List (AV T.U)} {us : List Value}, VRL T w S φ as us → VRL T w S φ (fixO T l as H) us
  | [], as, us, hv => hv
  | j :: r, as, us, hv => by
    unfold fixO
    split
    · rename_i i ha
      split
      · rename_i e t xs hi
        refine fixO_sound h r ?_
        obtain ⟨v, hu, hvr⟩ := hv.get T ha
        obtain ⟨B, vals, o1, o2, o3, o4, o5⟩ := h.ents i _ hi
        rw [VR] at hvr; subst hvr
        rw [o2] at o1
        have hnew : VR T w S φ (.sl i (szT T t) 0 xs.length) (.slice (φ i).ad (φ i).n (φ i).cap) := by
          refine ⟨(φ i).ad, ?_, ?_, ?_, fun hn => o1.nil0 hn, fun _ => rfl⟩
          · show Value.slice (φ i).ad (φ i).n (φ i).cap = Value.slice (φ i).ad xs.length ((φ i).cap - 0)
            rw [o2]; rfl
          · show 0 + xs.length ≤ (φ i).cap
            rw [Nat.zero_add]; exact o1.le.1
          rcases o1.cases with ⟨_, hn, _⟩ | ⟨c, had, _⟩
          · exact .inl hn
          · refine .inr ⟨_, had, had.trans ?_⟩
            show some (⟨_, 0, none⟩ : Addr) = some ⟨_, 0 + 0 * _, none⟩
            rw [Nat.zero_mul]
        have hs := hv.set T j hnew
        rwa [show us.set j (.slice (φ i).ad (φ i).n (φ i).cap) = us by
          obtain ⟨hlt, hg⟩ := List.getElem?_eq_some_iff.1 hu
          rw [← hg, List.set_getElem_self]] at hs
      · exact fixO_sound h r hv
    · exact fixO_sound h r hv
end
end Go.X
