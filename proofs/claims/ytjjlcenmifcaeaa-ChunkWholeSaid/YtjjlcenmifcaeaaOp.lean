/- From a law's arguments, as the statement reads them, to lists; and back to the statement. Nothing here is about one program. -/
import Derived.Test.YtjjlcenmifcaeaaG1
import Derived.ProofKit
import Derived.OpenShut
import Derived.Carry
import Derived.JoinedCond
import Derived.Deep.Slices
namespace Go.V
open Go.RowKit Go.ChangeShapes Go.WideShapes Go.ChangeAt Go.Deep

theorem mapM_get {α β : Type} {f : α → Option β} : ∀ {xs : List α} {l : List β}, xs.mapM f = some l → l.length = xs.length ∧ ∀ (k : Nat) (x : α), xs[k]? = some x → f x = l[k]?
  | [], l, h => by
    simp at h; subst h; exact ⟨rfl, fun k x hx => by simp at hx⟩
  | x :: xs, l, h => by
    rw [List.mapM_cons] at h
    cases hx : f x with
    | none => rw [hx] at h; simp at h
    | some y =>
      rw [hx] at h
      cases hr : xs.mapM f with
      | none => rw [hr] at h; simp at h
      | some r =>
        rw [hr] at h
        simp only [Option.pure_def, Option.bind_eq_bind, Option.bind_some, Option.some.injEq] at h
        subst h
        obtain ⟨h1, h2⟩ := mapM_get hr
        refine ⟨by simp [h1], fun k z hz => ?_⟩
        cases k with
        | zero => simp at hz; subst hz; simpa using hx
        | succ k => simp at hz; simpa using h2 k z hz
theorem cells_get {w : World} {base : Nat} {a : Addr} {n : Nat} {cs : List Value} (h : w.cells? base a n = some cs) : cs.length = n ∧ ∀ (k : Nat) (u : Value), cs[k]? = some u → w.cell? (a.add k) = some u := by
  unfold World.cells? at h
  split at h
  · obtain ⟨h1, h2⟩ := mapM_get h
    refine ⟨by simpa using h1, fun k u hu => ?_⟩
    have hk : k < n := by
      have := (List.getElem?_eq_some_iff.1 hu).1
      rw [h1] at this; simpa using this
    rw [h2 k k (by simp [hk]), hu]
  · cases h
section
variable {H : Type} {enc : TypeId × Value → H} {P : Program} {w : World} {t e : TypeId}
theorem retLaw {w w' : World} {v : Value} {e : Ending} (h : RetV w v e w') : e = .returned v ∧ Chg [] w w' := by
  cases e with
  | returned u => obtain ⟨h1, h2⟩ := h; subst h2; exact ⟨rfl, h1⟩
  | panicked ch => exact h.elim
  | outgrown => exact h.elim
/-- The arguments read as they did, behind a call that made new memory alone. -/
theorem argsStay (hl : laidOutB P = true) {W W' : World} (hb : Below W.heap.size W W') {sp : Nat → Bool} : ∀ {ts : List TypeId} {vs : List Value} {ds : List (DataW H)} {ps : List MemPlace}, (ts.all fun t => P.readableRec t && decide (t < P.types.size)) = true →
    DataW.TrodAll enc P W 0 (fun _ => true) true ts vs ds ps → (∀ x ∈ ps, x.block < W.heap.size) → (∀ x ∈ ps, sp x.block = true) → DataW.TrodAll enc P W' 0 sp true ts vs ds ps
  | [], [], [], _, _, h, _, _ => h
  | t :: ts, v :: vs, d :: ds, ps, hr, h, hlt, hsp => by
    obtain ⟨p, q, h1, h2, rfl⟩ := h
    simp only [List.all_cons, Bool.and_eq_true, decide_eq_true_eq] at hr
    exact ⟨p, q, WideElems.Trod_stays hl hr.1.1 hr.1.2 h1 (fun x hx => hb.same (hlt x (by simp [hx]))) (fun x hx => hsp x (by simp [hx])), argsStay hl hb (by simpa using hr.2) h2 (fun x hx => hlt x (by simp [hx])) (fun x hx => hsp x (by simp [hx])), rfl⟩
  | [], _ :: _, _, _, _, h, _, _ => by simp [DataW.TrodAll] at h
  | [], [], _ :: _, _, _, h, _, _ => by simp [DataW.TrodAll] at h
  | _ :: _, [], _, _, _, h, _, _ => by simp [DataW.TrodAll] at h
  | _ :: _, _ :: _, [], _, _, h, _, _ => by simp [DataW.TrodAll] at h
/-- A law's end: true is told, and every argument reads as it did. -/
theorem lawPost {f : Func} {s : ChangeSpec} {tb : TypeId} {apart fresh handsOn : Bool} {W W' : World} {args : Array Value} {ds gs : List (DataW H)} {before : List MemPlace} (hl : laidOutB P = true)
    (hW : DataW.Whole enc P f.params.toList s.vars apart W args.toList ds gs before) (hv : s.vars = []) (hs : s.fn H (ds ++ gs) = { results := [.lit (.bool true)], args := ds, vars := [] })
    (hrt : f.resultTypes = #[tb]) (hbt : P.underlying tb = some .bool) (hr : (f.params.toList.all fun t => P.readableRec t && decide (t < P.types.size)) = true) (hc : Chg [] W W') :
    s.post enc P f apart fresh handsOn false W args (.bool true) W' := by
  have hlt := hW.lt
  have hW0 := hW
  obtain ⟨p, q, hA, hV, rfl, hfz, hnd⟩ := hW
  rw [hv] at hV
  obtain ⟨rfl, rfl⟩ := trodVars_none hV
  have hb := hc.below
  refine ⟨ds, [], p ++ [], [], p, [], hW0, ?_, ?_, ?_, hb.frame _, fun h => by cases h⟩
  · rw [hs, hrt]; exact trodAll_mk1 (shut_bool hbt true)
  · rw [hs]; exact argsStay hl hb hr hA (fun x hx => hlt x (by simpa using hx)) (fun x hx => by simpa using hlt x (by simpa using hx))
  · rw [hs, hv]; rfl
end
end Go.V
