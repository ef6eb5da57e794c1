import Derived.Test.YtbklhipicfimeaaProg
import Derived.Test.YtbklhipicfimeaaSl
namespace Go.V
open Go.RowKit Go.Proofs
/-- A slice of truths, as it is read. -/
abbrev bo (xs : List Bool) : List Value := xs.map Value.bool
theorem boArrSet {l : List Bool} {j : Nat} {b : Bool} : (bo (l.set j b)).toArray = (bo l).toArray.setIfInBounds j (.bool b) := by
  apply Array.toList_inj.1
  rw [Array.toList_setIfInBounds]
  simp [bo, List.map_set]
theorem boRep (m : Nat) (b : Bool) : bo (List.replicate m b) = List.replicate m (.bool b) := List.map_replicate
theorem boApp (a b : List Bool) : bo (a ++ b) = bo a ++ bo b := List.map_append
theorem boOne (l : List Bool) : ∀ u ∈ bo l, u.oneCell' = true := by
  intro u hu
  obtain ⟨b, _, rfl⟩ := List.mem_map.1 hu
  rfl
theorem boSet {w : World} {B e n cap j : Nat} {ad : Option Addr} {xs : List Bool} {x : Bool} (h : Own w B e 1 ad n cap ((bo xs).set j (.bool x))) : Own w B e 1 ad n cap (bo (xs.set j x)) := by
  have : bo (xs.set j x) = (bo xs).set j (.bool x) := by simp [bo, List.map_set]
  rw [this]; exact h
/-- what mark tells. -/
abbrev markE (k i : Int) : Int := 1000003 * (k + 7) + i
def lentMark (i : Nat) : Bool := (markE 1 i).tmod 3 == 0
def lentMarks (m : Nat) : List Bool := (List.range m).map lentMark
@[simp] theorem lentMarks_len (m : Nat) : (lentMarks m).length = m := by simp [lentMarks]
theorem kept_ok {xs : List Bool} {k : Nat} (hk : k < xs.length + 12) : (((decide (((k : Nat) : Int) < ((xs.length : Nat) : Int))) && (!(((xs ++ lentMarks 12).getD k false) == (xs.getD k false)))) || ((decide (((k : Nat) : Int) ≥ ((xs.length : Nat) : Int))) && (!(((xs ++ lentMarks 12).getD k false) == (((markE (1 : Int) (((k : Nat) : Int) - ((xs.length : Nat) : Int))).tmod (3 : Int)) == (0 : Int)))))) = false := by
  by_cases h : k < xs.length
  · have h' : ¬ ((k : Int) ≥ (xs.length : Int)) := by omega
    rw [List.getD_eq_getElem?_getD, List.getElem?_append_left h, List.getD_eq_getElem?_getD]
    simp only [decide_eq_false h']; simp
  · have h' : ¬ ((k : Int) < (xs.length : Int)) := by omega
    have h2 : ((k : Int) - (xs.length : Int)) = ((k - xs.length : Nat) : Int) := by omega
    rw [List.getD_eq_getElem?_getD, List.getElem?_append_right (by omega), ← List.getD_eq_getElem?_getD]
    have hl : (lentMarks 12).getD (k - xs.length) false = lentMark (k - xs.length) := by
      have : k - xs.length < 12 := by omega
      simp [lentMarks, List.getD_eq_getElem?_getD, this]
    rw [hl, h2]
    simp only [decide_eq_false h', lentMark]; simp
theorem lentMarks_succ (m : Nat) : lentMarks (m + 1) = lentMarks m ++ [lentMark m] := by simp [lentMarks, List.range_succ]
theorem lentMarks_get (m i : Nat) (h : i < m) : (lentMarks m).getD i false = lentMark i := by
  simp [lentMarks, List.getD_eq_getElem?_getD, h]
theorem getD_left (xs ys : List Bool) (i : Nat) (h : i < xs.length) : (xs ++ ys).getD i false = xs.getD i false := by
  simp [List.getD_eq_getElem?_getD, List.getElem?_append_left h]
theorem getD_right (xs ys : List Bool) (i : Nat) (h : xs.length ≤ i) : (xs ++ ys).getD i false = ys.getD (i - xs.length) false := by
  simp [List.getD_eq_getElem?_getD, List.getElem?_append_right h]
def sameB (xs ys : List Bool) (m : Nat) : Bool := (List.range m).all fun i => xs.getD i false == ys.getD i false
theorem sameB_succ (xs ys : List Bool) (m : Nat) : sameB xs ys (m + 1) = (sameB xs ys m && (xs.getD m false == ys.getD m false)) := by simp [sameB, List.range_succ]
theorem sameB_eq {xs ys : List Bool} (hl : xs.length = ys.length) (h : sameB xs ys xs.length = true) : xs = ys := by
  apply List.ext_getElem hl
  intro i h1 h2
  unfold sameB at h
  rw [List.all_eq_true] at h
  have := h i (List.mem_range.2 h1)
  simpa [List.getD_eq_getElem?_getD, List.getElem?_eq_getElem h1, List.getElem?_eq_getElem h2] using this
theorem same_no {xs ys : List Bool} {k : Nat} (h1 : xs.getD k false ≠ ys.getD k false) : (xs == ys) = false := by
  cases hb : xs == ys with
  | false => rfl
  | true => exact absurd (by rw [eq_of_beq hb]) h1
theorem same_len {xs ys : List Bool} (h : (xs.length : Int) ≠ (ys.length : Int)) : (xs == ys) = false := by
  cases hb : xs == ys with
  | false => rfl
  | true => exact absurd (by rw [eq_of_beq hb]) h
theorem same_yes {xs ys : List Bool} {k : Nat} (hl : (xs.length : Int) = (ys.length : Int)) (hk : k ≤ xs.length) (hk' : ¬ (k : Int) < (xs.length : Int)) (h : sameB xs ys k = true) : (xs == ys) = true := by
  have hk2 : k = xs.length := by omega
  subst hk2
  rw [sameB_eq (by omega) h]; simp

theorem mark_any (k i : Int) (w : World) (_hk : 0 ≤ k ∧ k ≤ 1000000) (_hi : 0 ≤ i ∧ i ≤ 4000000000000000000) : Calls Try.prog 24 #[.int .i64 k, .int .i64 i] w (RetV w (.int .i64 (markE k i))) := by
  refine calls_of_CW Try.func24 rfl (n := 10) Try.ntmps24 (by kernel_rfl) [0, 1] (F := [(0, .int .i64 k), (1, .int .i64 i)]) (by kernel_rfl) ?_
  refine CW.seq fun K1 hK1 => ?_
  refine CW.region ?_
  refine WR.batch 1 [(0, .int .i64 k), (1, .int .i64 i)] (by kernel_rfl) ?_
  refine WR.fin (by kernel_rfl) ?_
  refine go hK1 ?_
  refine CW.seq fun K2 hK2 => ?_
  refine CW.region ?_
  refine WR.batch 2 [(1, .int .i64 i), (6, .int .i64 (IntKind.i64.wrap (k + (7 : Int))))] (by kernel_rfl) ?_
  have hw3 : IntKind.i64.wrap (k + (7 : Int)) = (k + (7 : Int)) := IntWalk.i64_in _ (by omega)
  refine WR.eqF (F' := [(1, .int .i64 i), (6, .int .i64 (k + (7 : Int)))]) (by rw [hw3]) ?_
  refine WR.batch 1 [(1, .int .i64 i), (7, .int .i64 (IntKind.i64.wrap ((1000003 : Int) * (k + (7 : Int)))))] (by kernel_rfl) ?_
  have hw4 : IntKind.i64.wrap ((1000003 : Int) * (k + (7 : Int))) = ((1000003 : Int) * (k + (7 : Int))) := IntWalk.i64_in _ (by omega)
  refine WR.eqF (F' := [(1, .int .i64 i), (7, .int .i64 ((1000003 : Int) * (k + (7 : Int))))]) (by rw [hw4]) ?_
  refine WR.batch 2 [(9, .int .i64 (IntKind.i64.wrap (((1000003 : Int) * (k + (7 : Int))) + i)))] (by kernel_rfl) ?_
  have hw5 : IntKind.i64.wrap (((1000003 : Int) * (k + (7 : Int))) + i) = (((1000003 : Int) * (k + (7 : Int))) + i) := IntWalk.i64_in _ (by omega)
  refine WR.eqF (F' := [(9, .int .i64 (((1000003 : Int) * (k + (7 : Int))) + i))]) (by rw [hw5]) ?_
  refine WR.batch 1 [(4, .int .i64 (((1000003 : Int) * (k + (7 : Int))) + i))] (by kernel_rfl) ?_
  refine WR.fin (by kernel_rfl) ?_
  refine go hK2 ?_
  refine CW.ret ?_
  exact retV (.int .i64 (((1000003 : Int) * (k + (7 : Int))) + i)) (by kernel_rfl) ⟨(Chg.refl _ _), rfl⟩

theorem sameTruths_any (ad1 ad2 : Option Addr) (cap1 cap2 : Nat) (xs ys : List Bool) (w : World) (h1 : Rg w ad1 (bo xs)) (h2 : Rg w ad2 (bo ys)) (_hm1 : xs.length ≤ 4000000000000000000) : Calls Try.prog 12 #[.slice ad1 xs.length cap1, .slice ad2 ys.length cap2] w (RetV w (.bool (xs == ys))) := by
  refine calls_of_CW Try.func12 rfl (n := 26) Try.ntmps12 (by kernel_rfl) [0, 1] (F := [(0, .slice ad1 xs.length cap1), (1, .slice ad2 ys.length cap2)]) (by kernel_rfl) ?_
  refine CW.seq fun K1 hK1 => ?_
  refine CW.region ?_
  refine WR.batch 1 [(0, .slice ad1 xs.length cap1), (1, .slice ad2 ys.length cap2)] (by kernel_rfl) ?_
  refine WR.fin (by kernel_rfl) ?_
  refine go hK1 ?_
  refine CW.seq fun K2 hK2 => ?_
  refine CW.seq fun K3 hK3 => ?_
  refine CW.region ?_
  refine WR.batch 5 [(0, .slice ad1 xs.length cap1), (1, .slice ad2 ys.length cap2), (10, .bool (((xs.length : Nat) : Int) != ((ys.length : Nat) : Int)))] (by kernel_rfl) ?_
  refine WR.fin (by kernel_rfl) ?_
  refine go hK3 ?_
  refine CW.cond ((((xs.length : Nat) : Int) != ((ys.length : Nat) : Int))) (by kernel_rfl) (fun ht4 => ?_) (fun ht4 => ?_)
  ·
    replace ht4 : ((xs.length : Nat) : Int) ≠ ((ys.length : Nat) : Int) := (bNeT ht4)
    refine CW.seq fun K5 hK5 => ?_
    refine CW.region ?_
    refine WR.batch 1 [(4, .bool false)] (by kernel_rfl) ?_
    refine WR.fin (by kernel_rfl) ?_
    refine go hK5 ?_
    refine CW.ret ?_
    exact retV (.bool false) (by kernel_rfl) ⟨(Chg.refl _ _), by first | rw [same_no (by assumption)] | rw [same_len (by assumption)]⟩
  ·
    replace ht4 : ((xs.length : Nat) : Int) = ((ys.length : Nat) : Int) := (bNeF ht4)
    have hl2 := ht4
    refine CW.skip ?_
    refine go hK2 ?_
    refine CW.seq fun K6 hK6 => ?_
    refine CW.seq fun K7 hK7 => ?_
    refine CW.region ?_
    refine WR.batch 1 [(0, .slice ad1 xs.length cap1), (1, .slice ad2 ys.length cap2), (5, .int .i64 (0 : Int))] (by kernel_rfl) ?_
    refine WR.fin (by kernel_rfl) ?_
    refine go hK7 ?_
    refine CW.block ?_
    refine CW.loop (σ := Nat) (fun k w8 => Chg [] w w8 ∧ (k ≤ xs.length) ∧ (sameB xs ys k = true)) (fun k => [(0, .slice ad1 xs.length cap1), (1, .slice ad2 ys.length cap2), (5, .int .i64 ((k : Nat) : Int))]) (fun k => xs.length - k) (0) ⟨Chg.refl _ _, (by omega), rfl⟩ [0, 1, 5] (by kernel_rfl) ?_
    rintro k w8 ⟨hC9, hk, hall⟩
    refine CW.seq fun K10 hK10 => ?_
    refine CW.seq fun K11 hK11 => ?_
    refine CW.region ?_
    refine WR.batch 4 [(0, .slice ad1 xs.length cap1), (1, .slice ad2 ys.length cap2), (5, .int .i64 ((k : Nat) : Int)), (14, .bool (decide (((k : Nat) : Int) < ((xs.length : Nat) : Int))))] (by kernel_rfl) ?_
    refine WR.fin (by kernel_rfl) ?_
    refine go hK11 ?_
    refine CW.cond (decide (((k : Nat) : Int) < ((xs.length : Nat) : Int))) (by kernel_rfl) (fun ht12 => ?_) (fun ht12 => ?_)
    ·
      replace ht12 : ((k : Nat) : Int) < ((xs.length : Nat) : Int) := (of_decide_eq_true ht12)
      refine CW.skip ?_
      refine go hK10 ?_
      refine CW.seq fun K13 hK13 => ?_
      refine CW.block ?_
      refine CW.seq fun K14 hK14 => ?_
      refine CW.regionQ (by kernel_rfl) (by kernel_rfl) ?_
      refine WQ.val (dst := some 17) (.slice ad1 xs.length cap1) (fun _ => by kernel_rfl) ?_
      refine WQ.val (dst := some 18) (.int .i64 ((k : Nat) : Int)) (fun _ => by kernel_rfl) ?_
      refine WQ.index (dst := some 19) (t := 22) (m := xs.length) (cap := cap1) (kk := .i64) (i := ((k : Nat) : Int)) (h1.pure hC9) (by kernel_rfl) 1 (by kernel_rfl) (by omega) (by omega) (mapNe _ _ (k) (by omega)) k (by omega) ?_
      refine WQ.load1 (dst := some 20) (t := 4) (a := ⟨bk ad1, of ad1 + k, none⟩) (by kernel_rfl) (by kernel_rfl) (.bool (xs.getD k false)) (fun _ hq => (((h1.pure hC9).pure hq) _ _ (getMap _ xs (k) false (by omega))).2) ?_
      refine WQ.val (dst := some 21) (.slice ad2 ys.length cap2) (fun _ => by kernel_rfl) ?_
      refine WQ.val (dst := some 22) (.int .i64 ((k : Nat) : Int)) (fun _ => by kernel_rfl) ?_
      refine WQ.index (dst := some 23) (t := 22) (m := ys.length) (cap := cap2) (kk := .i64) (i := ((k : Nat) : Int)) (h2.pure hC9) (by kernel_rfl) 1 (by kernel_rfl) (by omega) (by omega) (mapNe _ _ (k) (by omega)) k (by omega) ?_
      refine WQ.load1 (dst := some 24) (t := 4) (a := ⟨bk ad2, of ad2 + k, none⟩) (by kernel_rfl) (by kernel_rfl) (.bool (ys.getD k false)) (fun _ hq => (((h2.pure hC9).pure hq) _ _ (getMap _ ys (k) false (by omega))).2) ?_
      refine WQ.val (dst := some 25) (.bool ((xs.getD k false) != (ys.getD k false))) (fun _ => by kernel_rfl) ?_
      refine WQ.fin (by kernel_rfl) ?_
      intro w15 hc16
      have hz18 := hc16.size
      have hC17 := hC9.pure hc16
      refine go hK14 ?_
      refine CW.cond (((xs.getD k false) != (ys.getD k false))) (by kernel_rfl) (fun ht19 => ?_) (fun ht19 => ?_)
      ·
        replace ht19 : (xs.getD k false) ≠ (ys.getD k false) := (bNeT ht19)
        refine CW.seq fun K20 hK20 => ?_
        refine CW.region ?_
        refine WR.batch 1 [(4, .bool false)] (by kernel_rfl) ?_
        refine WR.fin (by kernel_rfl) ?_
        refine go hK20 ?_
        refine CW.ret ?_
        exact retV (.bool false) (by kernel_rfl) ⟨hC17, by first | rw [same_no (by assumption)] | rw [same_len (by assumption)]⟩
      ·
        replace ht19 : (xs.getD k false) = (ys.getD k false) := (bNeF ht19)
        refine CW.skip ?_
        refine go hK13 ?_
        refine CW.region ?_
        refine WR.batch 2 [(0, .slice ad1 xs.length cap1), (1, .slice ad2 ys.length cap2), (16, .int .i64 (IntKind.i64.wrap (((k : Nat) : Int) + (1 : Int))))] (by kernel_rfl) ?_
        have hw21 : IntKind.i64.wrap (((k : Nat) : Int) + (1 : Int)) = (((k : Nat) : Int) + (1 : Int)) := IntWalk.i64_in _ (by omega)
        refine WR.eqF (F' := [(0, .slice ad1 xs.length cap1), (1, .slice ad2 ys.length cap2), (16, .int .i64 (((k : Nat) : Int) + (1 : Int)))]) (by rw [hw21]) ?_
        refine WR.batch 1 [(0, .slice ad1 xs.length cap1), (1, .slice ad2 ys.length cap2), (5, .int .i64 (((k : Nat) : Int) + (1 : Int)))] (by kernel_rfl) ?_
        refine WR.fin (by kernel_rfl) ?_
        exact fun _ ha => ⟨k + 1, ⟨hC17, (by omega), (by rw [sameB_succ, hall, beq_iff_eq.2 (by assumption)]; rfl)⟩, (by dsimp only; omega), ha.keep [0, 1, 5] (by kernel_rfl)⟩
    ·
      replace ht12 : ¬ (((k : Nat) : Int) < ((xs.length : Nat) : Int)) := (of_decide_eq_false ht12)
      refine CW.exit ?_
      refine go hK6 ?_
      refine CW.seq fun K22 hK22 => ?_
      refine CW.region ?_
      refine WR.batch 1 [(4, .bool true)] (by kernel_rfl) ?_
      refine WR.fin (by kernel_rfl) ?_
      refine go hK22 ?_
      refine CW.ret ?_
      exact retV (.bool true) (by kernel_rfl) ⟨hC9, by rw [same_yes hl2 hk (by assumption) hall]⟩

theorem lentLeft {w : World} {ad : Option Addr} {xs ys : List Bool} (h : Rg w ad (bo (xs ++ ys))) : Rg w ad (bo xs) := by rw [boApp] at h; exact h.left
theorem sameTruths_refl (ad1 ad2 : Option Addr) (cap1 cap2 : Nat) (xs : List Bool) (w : World) (h1 : Rg w ad1 (bo xs)) (h2 : Rg w ad2 (bo xs)) (hm1 : xs.length ≤ 4000000000000000000) : Calls Try.prog 12 #[.slice ad1 xs.length cap1, .slice ad2 xs.length cap2] w (RetV w (.bool true)) := by
  have h := sameTruths_any ad1 ad2 cap1 cap2 xs xs w h1 h2 hm1
  rwa [show (xs == xs) = true from beq_self_eq_true xs] at h

theorem lentTruths_any (ad0 : Option Addr) (cap0 : Nat) (xs : List Bool) (w : World) (h0 : Rg w ad0 (bo xs)) (_hm : xs.length ≤ 1000000000000) (hnil : ad0 = none → xs.length = 0 ∧ cap0 = 0) : Calls Try.prog 8 #[.slice ad0 xs.length cap0] w (Ret [] w fun v w' => ∃ ad cap, v = .slice ad xs.length cap ∧ Rg w' ad (bo (xs ++ lentMarks 12)) ∧ xs.length + 12 ≤ cap) := by
  refine calls_of_CW Try.func8 rfl (n := 27) Try.ntmps8 (by kernel_rfl) [0] (F := [(0, .slice ad0 xs.length cap0)]) (by kernel_rfl) ?_
  refine CW.seq fun K1 hK1 => ?_
  refine CW.region ?_
  refine WR.batch 1 [(0, .slice ad0 xs.length cap0)] (by kernel_rfl) ?_
  refine WR.fin (by kernel_rfl) ?_
  refine go hK1 ?_
  refine CW.seq fun K2 hK2 => ?_
  refine CW.region ?_
  refine WR.batch 3 [(0, .slice ad0 xs.length cap0), (7, .int .i64 (IntKind.i64.wrap (((xs.length : Nat) : Int) + (12 : Int))))] (by kernel_rfl) ?_
  have hw3 : IntKind.i64.wrap (((xs.length : Nat) : Int) + (12 : Int)) = (((xs.length : Nat) : Int) + (12 : Int)) := IntWalk.i64_in _ (by omega)
  refine WR.eqF (F' := [(0, .slice ad0 xs.length cap0), (7, .int .i64 (((xs.length : Nat) : Int) + (12 : Int)))]) (by rw [hw3]) ?_
  refine WR.make (dst := some 8) (t := 22) (e := 4) (kl := .i64) (kc := .i64) (l := (0 : Int)) (c := (((xs.length : Nat) : Int) + (12 : Int))) (sz := 1) (by_ := 1) (zc := #[.bool false]) (by kernel_rfl) (by kernel_rfl) (0) (xs.length + 12) (by omega) (by omega) (by omega) (by omega) (by omega) ?_
  intro g4 w5 hN6
  have hf8 := hN6.fresh
  have hc9 := hN6.chg
  have hz11 := hc9.size
  have hC10 := (Chg.refl [] w).pure hc9
  have ho7 : Own w5 w.heap.size 4 1 (some ⟨g4, 0, none⟩) (0) (xs.length + 12) (bo (List.replicate (0) false)) := by rw [boRep, ← made1 _ _ (xs.length + 12) (by omega)]; exact Own.made hN6 (m := 0) (by omega) (by omega)
  refine WR.batch 1 [(0, .slice ad0 xs.length cap0), (3, .slice (some ⟨g4, 0, none⟩) 0 (xs.length + 12))] (by kernel_rfl) ?_
  refine WR.fin (by kernel_rfl) ?_
  refine go hK2 ?_
  refine CW.seq fun K12 hK12 => ?_
  refine CW.region ?_
  refine WR.batch 2 [(0, .slice ad0 xs.length cap0), (9, .slice (some ⟨g4, 0, none⟩) 0 (xs.length + 12)), (10, .slice ad0 xs.length cap0)] (by kernel_rfl) ?_
  refine WR.append (dst := some 11) (t := 22) (e := 4) (sz := 1) (by_ := 1) (zc := #[.bool false]) (m := 0) (cap := xs.length + 12) (xm := xs.length) (xcap := cap0) (news := bo (xs)) ho7 (h0.pure hC10) (by kernel_rfl) (by kernel_rfl) (by simp [bo]) (by omega) (boOne _) (by omega) (by omega) (by omega) hnil ?_
  intro ad13 cap14 w15 ho16 hc17 hw18
  have hz20 := hc17.size
  have hC19 := hC10.own hc17 (blks_ge ho7 (by omega))
  refine WR.eqF (F' := upd [(0, .slice ad0 xs.length cap0), (9, .slice (some ⟨g4, 0, none⟩) 0 (xs.length + 12)), (10, .slice ad0 xs.length cap0)] (some 11) (.slice ad13 xs.length cap14)) (by rw [Nat.zero_add]) ?_
  have ho21 : Own w15 w.heap.size 4 1 ad13 (xs.length) cap14 (bo (xs)) := by rw [Nat.zero_add] at ho16; exact ho16
  have hle22 := ho21.le
  refine WR.batch 1 [(0, .slice ad0 xs.length cap0), (3, .slice ad13 xs.length cap14)] (by kernel_rfl) ?_
  refine WR.fin (by kernel_rfl) ?_
  refine go hK12 ?_
  refine CW.seq fun K23 hK23 => ?_
  refine CW.seq fun K24 hK24 => ?_
  refine CW.region ?_
  refine WR.batch 1 [(0, .slice ad0 xs.length cap0), (3, .slice ad13 xs.length cap14), (4, .int .i64 (0 : Int))] (by kernel_rfl) ?_
  refine WR.fin (by kernel_rfl) ?_
  refine go hK24 ?_
  refine CW.block ?_
  refine CW.loop (σ := Nat × Option Addr × Nat) (fun (⟨k, ad, cap⟩ : Nat × Option Addr × Nat) w25 => Chg [] w w25 ∧ (k ≤ 12) ∧ (Own w25 w.heap.size 4 1 ad (xs.length + k) cap (bo (xs ++ lentMarks k)))) (fun (⟨k, ad, cap⟩ : Nat × Option Addr × Nat) => [(0, .slice ad0 xs.length cap0), (3, .slice ad (xs.length + k) cap), (4, .int .i64 ((k : Nat) : Int))]) (fun (⟨k, ad, cap⟩ : Nat × Option Addr × Nat) => 12 - k) (⟨0, ad13, cap14⟩) ⟨hC19, (by omega), by simpa [lentMarks] using ho21⟩ [0, 3, 4] (by kernel_rfl) ?_
  rintro ⟨k, ad, cap⟩ w25 ⟨hC26, hk, ho⟩
  have hle27 := ho.le
  refine CW.seq fun K28 hK28 => ?_
  refine CW.seq fun K29 hK29 => ?_
  refine CW.region ?_
  refine WR.batch 2 [(0, .slice ad0 xs.length cap0), (3, .slice ad (xs.length + k) cap), (4, .int .i64 ((k : Nat) : Int)), (13, .bool (decide (((k : Nat) : Int) < (12 : Int))))] (by kernel_rfl) ?_
  refine WR.fin (by kernel_rfl) ?_
  refine go hK29 ?_
  refine CW.cond (decide (((k : Nat) : Int) < (12 : Int))) (by kernel_rfl) (fun ht30 => ?_) (fun ht30 => ?_)
  ·
    replace ht30 : ((k : Nat) : Int) < (12 : Int) := (of_decide_eq_true ht30)
    refine CW.skip ?_
    refine go hK28 ?_
    refine CW.seq fun K31 hK31 => ?_
    refine CW.block ?_
    refine CW.region ?_
    refine WR.batch 2 [(0, .slice ad0 xs.length cap0), (4, .int .i64 ((k : Nat) : Int)), (16, .slice ad (xs.length + k) cap), (17, .int .i64 ((k : Nat) : Int))] (by kernel_rfl) ?_
    refine WR.call (dst := some 18) (by kernel_rfl) (mark_any (1 : Int) ((k : Nat) : Int) w25 (by omega) (by omega)) ?_
    rintro _ w32 hc33 rfl
    have hz35 := hc33.size
    have hC34 := hC26.pure hc33
    have ho36 := ho.pure hc33
    refine WR.batch 2 [(0, .slice ad0 xs.length cap0), (4, .int .i64 ((k : Nat) : Int)), (16, .slice ad (xs.length + k) cap), (20, .bool (((markE (1 : Int) ((k : Nat) : Int)).tmod (3 : Int)) == (0 : Int)))] (by kernel_rfl) ?_
    refine WR.bslice (dst := some 21) (len := 1) (e := 4) #[.bool (((markE (1 : Int) ((k : Nat) : Int)).tmod (3 : Int)) == (0 : Int))] (by kernel_rfl) ?_
    intro g37 w38 hN39
    have hf41 : w.heap.size ≤ g37 := Nat.le_trans hC34.size hN39.fresh
    have hfr43 := hN39.fresh
    have hc42 := hN39.chg
    have hz45 := hc42.size
    have hC44 := hC34.pure hc42
    have ho46 := ho36.pure hc42
    have hb40 := hN39.blk
    have hg47 := hb40.lt
    refine WR.append (dst := some 22) (t := 22) (e := 4) (sz := 1) (by_ := 1) (zc := #[.bool false]) (m := xs.length + k) (cap := cap) (xm := 1) (xcap := 1) (news := bo ([(((markE (1 : Int) ((k : Nat) : Int)).tmod (3 : Int)) == (0 : Int))])) ho46 (hb40.rg (bo ([(((markE (1 : Int) ((k : Nat) : Int)).tmod (3 : Int)) == (0 : Int))])) rfl) (by kernel_rfl) (by kernel_rfl) (by rfl) (by omega) (boOne _) (by omega) (by omega) (by omega) (by intro h; cases h) ?_
    intro ad48 cap49 w50 ho51 hc52 hw53
    have hz55 := hc52.size
    have hC54 := hC44.own hc52 (blks_ge ho46 (by omega))
    have ho56 : Own w50 w.heap.size 4 1 ad48 ((xs.length + k) + 1) cap49 (bo ((xs ++ lentMarks k) ++ ([(((markE (1 : Int) ((k : Nat) : Int)).tmod (3 : Int)) == (0 : Int))]))) := by rw [boApp]; exact ho51
    have hle57 := ho56.le
    refine WR.batch 1 [(0, .slice ad0 xs.length cap0), (3, .slice ad48 ((xs.length + k) + 1) cap49), (4, .int .i64 ((k : Nat) : Int))] (by kernel_rfl) ?_
    refine WR.fin (by kernel_rfl) ?_
    refine go hK31 ?_
    refine CW.region ?_
    refine WR.batch 2 [(0, .slice ad0 xs.length cap0), (3, .slice ad48 ((xs.length + k) + 1) cap49), (15, .int .i64 (IntKind.i64.wrap (((k : Nat) : Int) + (1 : Int))))] (by kernel_rfl) ?_
    have hw58 : IntKind.i64.wrap (((k : Nat) : Int) + (1 : Int)) = (((k : Nat) : Int) + (1 : Int)) := IntWalk.i64_in _ (by omega)
    refine WR.eqF (F' := [(0, .slice ad0 xs.length cap0), (3, .slice ad48 ((xs.length + k) + 1) cap49), (15, .int .i64 (((k : Nat) : Int) + (1 : Int)))]) (by rw [hw58]) ?_
    refine WR.batch 1 [(0, .slice ad0 xs.length cap0), (3, .slice ad48 ((xs.length + k) + 1) cap49), (4, .int .i64 (((k : Nat) : Int) + (1 : Int)))] (by kernel_rfl) ?_
    refine WR.fin (by kernel_rfl) ?_
    exact fun _ ha => ⟨⟨k + 1, ad48, cap49⟩, ⟨hC54, (by omega), by rw [lentMarks_succ, ← List.append_assoc, ← Nat.add_assoc]; exact ho56⟩, (by dsimp only; omega), ha.keep [0, 3, 4] (by kernel_rfl)⟩
  ·
    replace ht30 : ¬ (((k : Nat) : Int) < (12 : Int)) := (of_decide_eq_false ht30)
    refine CW.exit ?_
    refine go hK23 ?_
    refine CW.seq fun K59 hK59 => ?_
    refine CW.region ?_
    refine WR.batch 3 [(23, .slice ad (xs.length + k) cap), (25, .int .i64 ((xs.length : Nat) : Int))] (by kernel_rfl) ?_
    refine WR.sliceH (dst := some 26) (ad := ad) (t := 22) (e := 4) (m := xs.length + k) (cap := cap) (kk := .i64) (h := ((xs.length : Nat) : Int)) (sz := 1) (by_ := 1) (zc := #[.bool false]) (by kernel_rfl) (by kernel_rfl) (xs.length) (by omega) (by omega) ?_
    refine WR.batch 1 [(2, .slice ad xs.length cap)] (by kernel_rfl) ?_
    refine WR.fin (by kernel_rfl) ?_
    refine go hK59 ?_
    refine CW.ret ?_
    exact retV (.slice ad xs.length cap) (by kernel_rfl) ⟨hC26, ⟨ad, cap, rfl, by rw [show (12 : Nat) = k by omega]; exact ho.rg, by have := ho.le; omega⟩⟩

theorem keptTruths_any (ad1 ad2 : Option Addr) (cap1 cap2 : Nat) (xs : List Bool) (w : World) (h1 : Rg w ad1 (bo (xs ++ lentMarks 12))) (h2 : Rg w ad2 (bo xs)) (_hm : xs.length ≤ 1000000000000) (_hcap : xs.length + 12 ≤ cap1) : Calls Try.prog 20 #[.slice ad1 xs.length cap1, .slice ad2 xs.length cap2] w (RetV w (.bool true)) := by
  refine calls_of_CW Try.func20 rfl (n := 60) Try.ntmps20 (by kernel_rfl) [0, 1] (F := [(0, .slice ad1 xs.length cap1), (1, .slice ad2 xs.length cap2)]) (by kernel_rfl) ?_
  refine CW.seq fun K1 hK1 => ?_
  refine CW.region ?_
  refine WR.batch 1 [(0, .slice ad1 xs.length cap1), (1, .slice ad2 xs.length cap2)] (by kernel_rfl) ?_
  refine WR.fin (by kernel_rfl) ?_
  refine go hK1 ?_
  refine CW.seq fun K2 hK2 => ?_
  refine CW.seq fun K3 hK3 => ?_
  refine CW.region ?_
  refine WR.batch 5 [(0, .slice ad1 xs.length cap1), (1, .slice ad2 xs.length cap2), (11, .bool (((xs.length : Nat) : Int) != ((xs.length : Nat) : Int)))] (by kernel_rfl) ?_
  have hk4 : (((xs.length : Nat) : Int) != ((xs.length : Nat) : Int)) = false := (bne_self_eq_false _)
  refine WR.eqF (F' := [(0, .slice ad1 xs.length cap1), (1, .slice ad2 xs.length cap2), (11, .bool false)]) (by rw [hk4]) ?_
  refine WR.fin (by kernel_rfl) ?_
  refine go hK3 ?_
  refine CW.no (by kernel_rfl) ?_
  refine CW.skip ?_
  refine go hK2 ?_
  refine CW.seq fun K5 hK5 => ?_
  refine CW.region ?_
  refine WR.batch 4 [(1, .slice ad2 xs.length cap2), (12, .slice ad1 xs.length cap1), (15, .int .i64 (IntKind.i64.wrap (((xs.length : Nat) : Int) + (12 : Int))))] (by kernel_rfl) ?_
  have hw6 : IntKind.i64.wrap (((xs.length : Nat) : Int) + (12 : Int)) = (((xs.length : Nat) : Int) + (12 : Int)) := IntWalk.i64_in _ (by omega)
  refine WR.eqF (F' := [(1, .slice ad2 xs.length cap2), (12, .slice ad1 xs.length cap1), (15, .int .i64 (((xs.length : Nat) : Int) + (12 : Int)))]) (by rw [hw6]) ?_
  refine WR.sliceH (dst := some 16) (ad := ad1) (t := 22) (e := 4) (m := xs.length) (cap := cap1) (kk := .i64) (h := (((xs.length : Nat) : Int) + (12 : Int))) (sz := 1) (by_ := 1) (zc := #[.bool false]) (by kernel_rfl) (by kernel_rfl) (xs.length + 12) (by omega) (by omega) ?_
  refine WR.batch 1 [(1, .slice ad2 xs.length cap2), (5, .slice ad1 (xs.length + 12) cap1)] (by kernel_rfl) ?_
  refine WR.fin (by kernel_rfl) ?_
  refine go hK5 ?_
  refine CW.seq fun K7 hK7 => ?_
  refine CW.seq fun K8 hK8 => ?_
  refine CW.region ?_
  refine WR.batch 1 [(1, .slice ad2 xs.length cap2), (5, .slice ad1 (xs.length + 12) cap1), (6, .int .i64 (0 : Int))] (by kernel_rfl) ?_
  refine WR.fin (by kernel_rfl) ?_
  refine go hK8 ?_
  refine CW.block ?_
  refine CW.loop (σ := Nat) (fun k w9 => Chg [] w w9 ∧ (k ≤ xs.length + 12)) (fun k => [(1, .slice ad2 xs.length cap2), (5, .slice ad1 (xs.length + 12) cap1), (6, .int .i64 ((k : Nat) : Int))]) (fun k => xs.length + 12 - k) (0) ⟨Chg.refl _ _, (by omega)⟩ [1, 5, 6] (by kernel_rfl) ?_
  rintro k w9 ⟨hC10, hk⟩
  refine CW.seq fun K11 hK11 => ?_
  refine CW.seq fun K12 hK12 => ?_
  refine CW.region ?_
  refine WR.batch 4 [(1, .slice ad2 xs.length cap2), (5, .slice ad1 (xs.length + 12) cap1), (6, .int .i64 ((k : Nat) : Int)), (20, .bool (decide (((k : Nat) : Int) < ((xs.length + 12 : Nat) : Int))))] (by kernel_rfl) ?_
  refine WR.fin (by kernel_rfl) ?_
  refine go hK12 ?_
  refine CW.cond (decide (((k : Nat) : Int) < ((xs.length + 12 : Nat) : Int))) (by kernel_rfl) (fun ht13 => ?_) (fun ht13 => ?_)
  ·
    replace ht13 : ((k : Nat) : Int) < ((xs.length + 12 : Nat) : Int) := (of_decide_eq_true ht13)
    refine CW.skip ?_
    refine go hK11 ?_
    refine CW.seq fun K14 hK14 => ?_
    refine CW.block ?_
    refine CW.seq fun K15 hK15 => ?_
    refine CW.regionQ (by kernel_rfl) (by kernel_rfl) ?_
    refine WQ.val (dst := some 23) (.int .i64 ((k : Nat) : Int)) (fun _ => by kernel_rfl) ?_
    refine WQ.val (dst := some 24) (.slice ad2 xs.length cap2) (fun _ => by kernel_rfl) ?_
    refine WQ.val (dst := some 25) (.int .i64 ((xs.length : Nat) : Int)) (fun _ => by kernel_rfl) ?_
    refine WQ.val (dst := some 26) (.bool (decide (((k : Nat) : Int) < ((xs.length : Nat) : Int)))) (fun _ => by kernel_rfl) ?_
    refine WQ.val (dst := some 27) (.bool (decide (((k : Nat) : Int) < ((xs.length : Nat) : Int)))) (fun _ => by kernel_rfl) ?_
    refine WQ.merge 16 [(1, .slice ad2 xs.length cap2), (5, .slice ad1 (xs.length + 12) cap1), (6, .int .i64 ((k : Nat) : Int)), (38, .bool ((decide (((k : Nat) : Int) < ((xs.length : Nat) : Int))) && (!(((xs ++ lentMarks 12).getD k false) == (xs.getD k false)))))] (fun Q' => ?_) ?_
    ·
      cases hg16 : decide (((k : Nat) : Int) < ((xs.length : Nat) : Int))
      ·
        replace hg16 : ¬ (((k : Nat) : Int) < ((xs.length : Nat) : Int)) := (of_decide_eq_false hg16)
        intro hM17
        refine WQ.pass1 (dst := some 28) (by kernel_rfl) ?_
        refine WQ.pass1 (dst := some 29) (by kernel_rfl) ?_
        refine WQ.pass1 (dst := some 30) (by kernel_rfl) ?_
        refine WQ.pass1 (dst := some 31) (by kernel_rfl) ?_
        refine WQ.pass1 (dst := some 32) (by kernel_rfl) ?_
        refine WQ.pass1 (dst := some 33) (by kernel_rfl) ?_
        refine WQ.pass1 (dst := some 34) (by kernel_rfl) ?_
        refine WQ.pass1 (dst := some 35) (by kernel_rfl) ?_
        refine WQ.pass1 (dst := some 36) (by kernel_rfl) ?_
        refine WQ.pass1 (dst := some 37) (by kernel_rfl) ?_
        refine WQ.val (dst := some 38) (.bool false) (fun _ => by kernel_rfl) ?_
        exact WQ.keep [1, 5, 6, 38] (by kernel_rfl) hM17
      ·
        replace hg16 : ((k : Nat) : Int) < ((xs.length : Nat) : Int) := (of_decide_eq_true hg16)
        intro hM17
        refine WQ.val (dst := some 28) (.slice ad1 (xs.length + 12) cap1) (fun _ => by kernel_rfl) ?_
        refine WQ.val (dst := some 29) (.int .i64 ((k : Nat) : Int)) (fun _ => by kernel_rfl) ?_
        refine WQ.index (dst := some 30) (t := 22) (m := xs.length + 12) (cap := cap1) (kk := .i64) (i := ((k : Nat) : Int)) (h1.pure hC10) (by kernel_rfl) 1 (by kernel_rfl) (by omega) (by omega) (mapNe _ (xs ++ lentMarks 12) (k) (by simp; omega)) k (by omega) ?_
        refine WQ.load1 (dst := some 31) (t := 4) (a := ⟨bk ad1, of ad1 + k, none⟩) (by kernel_rfl) (by kernel_rfl) (.bool ((xs ++ lentMarks 12).getD k false)) (fun _ hq => (((h1.pure hC10).pure hq) _ _ (getMap _ (xs ++ lentMarks 12) (k) false (by simp; omega))).2) ?_
        refine WQ.val (dst := some 32) (.slice ad2 xs.length cap2) (fun _ => by kernel_rfl) ?_
        refine WQ.val (dst := some 33) (.int .i64 ((k : Nat) : Int)) (fun _ => by kernel_rfl) ?_
        refine WQ.index (dst := some 34) (t := 22) (m := xs.length) (cap := cap2) (kk := .i64) (i := ((k : Nat) : Int)) (h2.pure hC10) (by kernel_rfl) 1 (by kernel_rfl) (by omega) (by omega) (mapNe _ _ (k) (by omega)) k (by omega) ?_
        refine WQ.load1 (dst := some 35) (t := 4) (a := ⟨bk ad2, of ad2 + k, none⟩) (by kernel_rfl) (by kernel_rfl) (.bool (xs.getD k false)) (fun _ hq => (((h2.pure hC10).pure hq) _ _ (getMap _ xs (k) false (by omega))).2) ?_
        refine WQ.val (dst := some 36) (.bool (((xs ++ lentMarks 12).getD k false) == (xs.getD k false))) (fun _ => by kernel_rfl) ?_
        refine WQ.val (dst := some 37) (.bool (!(((xs ++ lentMarks 12).getD k false) == (xs.getD k false)))) (fun _ => by kernel_rfl) ?_
        refine WQ.val (dst := some 38) (.bool (!(((xs ++ lentMarks 12).getD k false) == (xs.getD k false)))) (fun _ => by kernel_rfl) ?_
        exact WQ.keep [1, 5, 6, 38] (by kernel_rfl) hM17
    ·
      refine WQ.val (dst := some 39) (.bool ((decide (((k : Nat) : Int) < ((xs.length : Nat) : Int))) && (!(((xs ++ lentMarks 12).getD k false) == (xs.getD k false))))) (fun _ => by kernel_rfl) ?_
      refine WQ.merge 37 [(1, .slice ad2 xs.length cap2), (5, .slice ad1 (xs.length + 12) cap1), (6, .int .i64 ((k : Nat) : Int)), (59, .bool (((decide (((k : Nat) : Int) < ((xs.length : Nat) : Int))) && (!(((xs ++ lentMarks 12).getD k false) == (xs.getD k false)))) || ((decide (((k : Nat) : Int) ≥ ((xs.length : Nat) : Int))) && (!(((xs ++ lentMarks 12).getD k false) == (((markE (1 : Int) (((k : Nat) : Int) - ((xs.length : Nat) : Int))).tmod (3 : Int)) == (0 : Int)))))))] (fun Q' => ?_) ?_
      ·
        cases hg18 : ((decide (((k : Nat) : Int) < ((xs.length : Nat) : Int))) && (!(((xs ++ lentMarks 12).getD k false) == (xs.getD k false))))
        ·
          replace hg18 : (¬ (((k : Nat) : Int) < ((xs.length : Nat) : Int))) ∨ (((xs ++ lentMarks 12).getD k false) = (xs.getD k false)) := (orMap (bAndF hg18) (fun h => (of_decide_eq_false h)) (fun h => (bEqT (bNotF h))))
          intro hM19
          refine WQ.val (dst := some 40) (.int .i64 ((k : Nat) : Int)) (fun _ => by kernel_rfl) ?_
          refine WQ.val (dst := some 41) (.slice ad2 xs.length cap2) (fun _ => by kernel_rfl) ?_
          refine WQ.val (dst := some 42) (.int .i64 ((xs.length : Nat) : Int)) (fun _ => by kernel_rfl) ?_
          refine WQ.val (dst := some 43) (.bool (decide (((k : Nat) : Int) ≥ ((xs.length : Nat) : Int)))) (fun _ => by kernel_rfl) ?_
          refine WQ.val (dst := some 44) (.bool (decide (((k : Nat) : Int) ≥ ((xs.length : Nat) : Int)))) (fun _ => by kernel_rfl) ?_
          refine WQ.merge 36 [(1, .slice ad2 xs.length cap2), (5, .slice ad1 (xs.length + 12) cap1), (6, .int .i64 ((k : Nat) : Int)), (39, .bool false), (58, .bool ((decide (((k : Nat) : Int) ≥ ((xs.length : Nat) : Int))) && (!(((xs ++ lentMarks 12).getD k false) == (((markE (1 : Int) (((k : Nat) : Int) - ((xs.length : Nat) : Int))).tmod (3 : Int)) == (0 : Int))))))] (fun Q' => ?_) ?_
          ·
            cases hg20 : decide (((k : Nat) : Int) ≥ ((xs.length : Nat) : Int))
            ·
              replace hg20 : ¬ (((k : Nat) : Int) ≥ ((xs.length : Nat) : Int)) := (of_decide_eq_false hg20)
              intro hM21
              refine WQ.pass1 (dst := some 45) (by kernel_rfl) ?_
              refine WQ.pass1 (dst := some 46) (by kernel_rfl) ?_
              refine WQ.pass1 (dst := some 47) (by kernel_rfl) ?_
              refine WQ.pass1 (dst := some 48) (by kernel_rfl) ?_
              refine WQ.pass1 (dst := some 49) (by kernel_rfl) ?_
              refine WQ.pass1 (dst := some 50) (by kernel_rfl) ?_
              refine WQ.pass1 (dst := some 51) (by kernel_rfl) ?_
              refine WQ.pass1 (dst := some 52) (by kernel_rfl) ?_
              refine WQ.pass1 (dst := some 53) (by kernel_rfl) ?_
              refine WQ.pass1 (dst := some 54) (by kernel_rfl) ?_
              refine WQ.pass1 (dst := some 55) (by kernel_rfl) ?_
              refine WQ.pass1 (dst := some 56) (by kernel_rfl) ?_
              refine WQ.pass1 (dst := some 57) (by kernel_rfl) ?_
              refine WQ.val (dst := some 58) (.bool false) (fun _ => by kernel_rfl) ?_
              exact WQ.keep [1, 5, 6, 39, 58] (by kernel_rfl) hM21
            ·
              replace hg20 : ((k : Nat) : Int) ≥ ((xs.length : Nat) : Int) := (of_decide_eq_true hg20)
              intro hM21
              refine WQ.val (dst := some 45) (.slice ad1 (xs.length + 12) cap1) (fun _ => by kernel_rfl) ?_
              refine WQ.val (dst := some 46) (.int .i64 ((k : Nat) : Int)) (fun _ => by kernel_rfl) ?_
              refine WQ.index (dst := some 47) (t := 22) (m := xs.length + 12) (cap := cap1) (kk := .i64) (i := ((k : Nat) : Int)) (h1.pure hC10) (by kernel_rfl) 1 (by kernel_rfl) (by omega) (by omega) (mapNe _ (xs ++ lentMarks 12) (k) (by simp; omega)) k (by omega) ?_
              refine WQ.load1 (dst := some 48) (t := 4) (a := ⟨bk ad1, of ad1 + k, none⟩) (by kernel_rfl) (by kernel_rfl) (.bool ((xs ++ lentMarks 12).getD k false)) (fun _ hq => (((h1.pure hC10).pure hq) _ _ (getMap _ (xs ++ lentMarks 12) (k) false (by simp; omega))).2) ?_
              refine WQ.val (dst := some 49) (.int .i64 ((k : Nat) : Int)) (fun _ => by kernel_rfl) ?_
              refine WQ.val (dst := some 50) (.slice ad2 xs.length cap2) (fun _ => by kernel_rfl) ?_
              refine WQ.val (dst := some 51) (.int .i64 ((xs.length : Nat) : Int)) (fun _ => by kernel_rfl) ?_
              refine WQ.val (dst := some 52) (.int .i64 (IntKind.i64.wrap (((k : Nat) : Int) - ((xs.length : Nat) : Int)))) (fun _ => by kernel_rfl) ?_
              have hw22 : IntKind.i64.wrap (((k : Nat) : Int) - ((xs.length : Nat) : Int)) = (((k : Nat) : Int) - ((xs.length : Nat) : Int)) := IntWalk.i64_in _ (by omega)
              rw [hw22]
              refine WQ.call (dst := some 53) (f := 24) (args := #[.int .i64 (1 : Int), .int .i64 (((k : Nat) : Int) - ((xs.length : Nat) : Int))]) (.int .i64 (markE (1 : Int) (((k : Nat) : Int) - ((xs.length : Nat) : Int)))) (fun _ => by kernel_rfl) (fun _ _ h h' => h.pure h') (fun wq hq => mark_any (1 : Int) (((k : Nat) : Int) - ((xs.length : Nat) : Int)) wq (by omega) (by omega)) ?_
              refine WQ.val (dst := some 54) (.int .i64 ((markE (1 : Int) (((k : Nat) : Int) - ((xs.length : Nat) : Int))).tmod (3 : Int))) (fun _ => by kernel_rfl) ?_
              refine WQ.val (dst := some 55) (.bool (((markE (1 : Int) (((k : Nat) : Int) - ((xs.length : Nat) : Int))).tmod (3 : Int)) == (0 : Int))) (fun _ => by kernel_rfl) ?_
              refine WQ.val (dst := some 56) (.bool (((xs ++ lentMarks 12).getD k false) == (((markE (1 : Int) (((k : Nat) : Int) - ((xs.length : Nat) : Int))).tmod (3 : Int)) == (0 : Int)))) (fun _ => by kernel_rfl) ?_
              refine WQ.val (dst := some 57) (.bool (!(((xs ++ lentMarks 12).getD k false) == (((markE (1 : Int) (((k : Nat) : Int) - ((xs.length : Nat) : Int))).tmod (3 : Int)) == (0 : Int))))) (fun _ => by kernel_rfl) ?_
              refine WQ.val (dst := some 58) (.bool (!(((xs ++ lentMarks 12).getD k false) == (((markE (1 : Int) (((k : Nat) : Int) - ((xs.length : Nat) : Int))).tmod (3 : Int)) == (0 : Int))))) (fun _ => by kernel_rfl) ?_
              exact WQ.keep [1, 5, 6, 39, 58] (by kernel_rfl) hM21
          ·
            refine WQ.val (dst := some 59) (.bool ((decide (((k : Nat) : Int) ≥ ((xs.length : Nat) : Int))) && (!(((xs ++ lentMarks 12).getD k false) == (((markE (1 : Int) (((k : Nat) : Int) - ((xs.length : Nat) : Int))).tmod (3 : Int)) == (0 : Int)))))) (fun _ => by kernel_rfl) ?_
            exact WQ.keep [1, 5, 6, 59] (by kernel_rfl) hM19
        ·
          replace hg18 : (((k : Nat) : Int) < ((xs.length : Nat) : Int)) ∧ (((xs ++ lentMarks 12).getD k false) ≠ (xs.getD k false)) := ⟨(of_decide_eq_true (bAndT hg18).1), (bEqF (bNotT (bAndT hg18).2))⟩
          intro hM19
          refine WQ.pass1 (dst := some 40) (by kernel_rfl) ?_
          refine WQ.pass1 (dst := some 41) (by kernel_rfl) ?_
          refine WQ.pass1 (dst := some 42) (by kernel_rfl) ?_
          refine WQ.pass1 (dst := some 43) (by kernel_rfl) ?_
          refine WQ.pass1 (dst := some 44) (by kernel_rfl) ?_
          refine WQ.pass1 (dst := some 45) (by kernel_rfl) ?_
          refine WQ.pass1 (dst := some 46) (by kernel_rfl) ?_
          refine WQ.pass1 (dst := some 47) (by kernel_rfl) ?_
          refine WQ.pass1 (dst := some 48) (by kernel_rfl) ?_
          refine WQ.pass1 (dst := some 49) (by kernel_rfl) ?_
          refine WQ.pass1 (dst := some 50) (by kernel_rfl) ?_
          refine WQ.pass1 (dst := some 51) (by kernel_rfl) ?_
          refine WQ.pass1 (dst := some 52) (by kernel_rfl) ?_
          refine WQ.pass1 (dst := some 53) (by kernel_rfl) ?_
          refine WQ.pass1 (dst := some 54) (by kernel_rfl) ?_
          refine WQ.pass1 (dst := some 55) (by kernel_rfl) ?_
          refine WQ.pass1 (dst := some 56) (by kernel_rfl) ?_
          refine WQ.pass1 (dst := some 57) (by kernel_rfl) ?_
          refine WQ.pass1 (dst := some 58) (by kernel_rfl) ?_
          refine WQ.val (dst := some 59) (.bool true) (fun _ => by kernel_rfl) ?_
          exact WQ.keep [1, 5, 6, 59] (by kernel_rfl) hM19
      ·
        refine WQ.fin (by kernel_rfl) ?_
        intro w23 hc24
        have hz26 := hc24.size
        have hC25 := hC10.pure hc24
        refine go hK15 ?_
        have ht27 : (((decide (((k : Nat) : Int) < ((xs.length : Nat) : Int))) && (!(((xs ++ lentMarks 12).getD k false) == (xs.getD k false)))) || ((decide (((k : Nat) : Int) ≥ ((xs.length : Nat) : Int))) && (!(((xs ++ lentMarks 12).getD k false) == (((markE (1 : Int) (((k : Nat) : Int) - ((xs.length : Nat) : Int))).tmod (3 : Int)) == (0 : Int)))))) = false := kept_ok (by omega)
        refine CW.eqF (F' := [(1, .slice ad2 xs.length cap2), (5, .slice ad1 (xs.length + 12) cap1), (6, .int .i64 ((k : Nat) : Int)), (59, .bool false)]) (by rw [ht27]) ?_
        refine CW.no (by kernel_rfl) ?_
        refine CW.skip ?_
        refine go hK14 ?_
        refine CW.region ?_
        refine WR.batch 2 [(1, .slice ad2 xs.length cap2), (5, .slice ad1 (xs.length + 12) cap1), (22, .int .i64 (IntKind.i64.wrap (((k : Nat) : Int) + (1 : Int))))] (by kernel_rfl) ?_
        have hw28 : IntKind.i64.wrap (((k : Nat) : Int) + (1 : Int)) = (((k : Nat) : Int) + (1 : Int)) := IntWalk.i64_in _ (by omega)
        refine WR.eqF (F' := [(1, .slice ad2 xs.length cap2), (5, .slice ad1 (xs.length + 12) cap1), (22, .int .i64 (((k : Nat) : Int) + (1 : Int)))]) (by rw [hw28]) ?_
        refine WR.batch 1 [(1, .slice ad2 xs.length cap2), (5, .slice ad1 (xs.length + 12) cap1), (6, .int .i64 (((k : Nat) : Int) + (1 : Int)))] (by kernel_rfl) ?_
        refine WR.fin (by kernel_rfl) ?_
        exact fun _ ha => ⟨k + 1, ⟨hC25, (by omega)⟩, (by dsimp only; omega), ha.keep [1, 5, 6] (by kernel_rfl)⟩
  ·
    replace ht13 : ¬ (((k : Nat) : Int) < ((xs.length + 12 : Nat) : Int)) := (of_decide_eq_false ht13)
    refine CW.exit ?_
    refine go hK7 ?_
    refine CW.seq fun K29 hK29 => ?_
    refine CW.region ?_
    refine WR.batch 1 [(4, .bool true)] (by kernel_rfl) ?_
    refine WR.fin (by kernel_rfl) ?_
    refine go hK29 ?_
    refine CW.ret ?_
    exact retV (.bool true) (by kernel_rfl) ⟨hC10, rfl⟩

/-- what Pick tells. -/
def pickE (x n : Int) : Int := if n < 1 then 0 else if x.tmod n < 0 then x.tmod n + n else x.tmod n
theorem pickE_bd (x n : Int) (h : 1 ≤ n) : 0 ≤ pickE x n ∧ pickE x n < n := by
  have h1 := Int.tmod_lt_of_pos x (b := n) (by omega)
  have h2 : -n < x.tmod n := by
    have := Int.lt_tmod_of_pos x (b := n) (by omega)
    omega
  unfold pickE
  split
  · omega
  · split <;> omega

theorem pick_any (x n : Int) (w : World) (_hn : -9223372036854775808 ≤ n ∧ n ≤ 9223372036854775807) : Calls Try.prog 21 #[.int .i64 x, .int .i64 n] w (RetV w (.int .i64 (pickE x n))) := by
  refine calls_of_CW Try.func21 rfl (n := 16) Try.ntmps21 (by kernel_rfl) [0, 1] (F := [(0, .int .i64 x), (1, .int .i64 n)]) (by kernel_rfl) ?_
  refine CW.seq fun K1 hK1 => ?_
  refine CW.region ?_
  refine WR.batch 1 [(0, .int .i64 x), (1, .int .i64 n)] (by kernel_rfl) ?_
  refine WR.fin (by kernel_rfl) ?_
  refine go hK1 ?_
  refine CW.seq fun K2 hK2 => ?_
  refine CW.seq fun K3 hK3 => ?_
  refine CW.region ?_
  refine WR.batch 2 [(0, .int .i64 x), (1, .int .i64 n), (6, .bool (decide (n < (1 : Int))))] (by kernel_rfl) ?_
  refine WR.fin (by kernel_rfl) ?_
  refine go hK3 ?_
  refine CW.cond (decide (n < (1 : Int))) (by kernel_rfl) (fun ht4 => ?_) (fun ht4 => ?_)
  ·
    replace ht4 : n < (1 : Int) := (of_decide_eq_true ht4)
    refine CW.seq fun K5 hK5 => ?_
    refine CW.region ?_
    refine WR.batch 1 [(4, .int .i64 (0 : Int))] (by kernel_rfl) ?_
    refine WR.fin (by kernel_rfl) ?_
    refine go hK5 ?_
    refine CW.ret ?_
    exact retV (.int .i64 (0 : Int)) (by kernel_rfl) ⟨(Chg.refl _ _), by simp only [pickE]; grind⟩
  ·
    replace ht4 : ¬ (n < (1 : Int)) := (of_decide_eq_false ht4)
    have hb1 := Int.tmod_lt_of_pos x (b := n) (by omega)
    have hb2 := Int.lt_tmod_of_pos x (b := n) (by omega)
    refine CW.skip ?_
    refine go hK2 ?_
    refine CW.seq fun K6 hK6 => ?_
    refine CW.region ?_
    refine WR.batch 2 [(1, .int .i64 n), (7, .int .i64 x), (8, .int .i64 n)] (by kernel_rfl) ?_
    refine WR.rem (dst := some 9) (kk := .i64) (x := x) (y := n) (by kernel_rfl) (by omega) ?_
    refine WR.batch 1 [(0, .int .i64 ((x).tmod n)), (1, .int .i64 n)] (by kernel_rfl) ?_
    refine WR.fin (by kernel_rfl) ?_
    refine go hK6 ?_
    refine CW.seq fun K7 hK7 => ?_
    refine CW.seq fun K8 hK8 => ?_
    refine CW.region ?_
    refine WR.batch 2 [(0, .int .i64 ((x).tmod n)), (1, .int .i64 n), (11, .bool (decide (((x).tmod n) < (0 : Int))))] (by kernel_rfl) ?_
    refine WR.fin (by kernel_rfl) ?_
    refine go hK8 ?_
    refine CW.cond (decide (((x).tmod n) < (0 : Int))) (by kernel_rfl) (fun ht9 => ?_) (fun ht9 => ?_)
    ·
      replace ht9 : ((x).tmod n) < (0 : Int) := (of_decide_eq_true ht9)
      refine CW.region ?_
      refine WR.batch 3 [(14, .int .i64 (IntKind.i64.wrap (((x).tmod n) + n)))] (by kernel_rfl) ?_
      have hw10 : IntKind.i64.wrap (((x).tmod n) + n) = (((x).tmod n) + n) := IntWalk.i64_in _ (by omega)
      refine WR.eqF (F' := [(14, .int .i64 (((x).tmod n) + n))]) (by rw [hw10]) ?_
      refine WR.batch 1 [(0, .int .i64 (((x).tmod n) + n))] (by kernel_rfl) ?_
      refine WR.fin (by kernel_rfl) ?_
      refine go hK7 ?_
      refine CW.seq fun K11 hK11 => ?_
      refine CW.region ?_
      refine WR.batch 2 [(4, .int .i64 (((x).tmod n) + n))] (by kernel_rfl) ?_
      refine WR.fin (by kernel_rfl) ?_
      refine go hK11 ?_
      refine CW.ret ?_
      exact retV (.int .i64 (((x).tmod n) + n)) (by kernel_rfl) ⟨(Chg.refl _ _), by simp only [pickE]; grind⟩
    ·
      replace ht9 : ¬ (((x).tmod n) < (0 : Int)) := (of_decide_eq_false ht9)
      refine CW.skip ?_
      refine go hK7 ?_
      refine CW.seq fun K12 hK12 => ?_
      refine CW.region ?_
      refine WR.batch 2 [(4, .int .i64 ((x).tmod n))] (by kernel_rfl) ?_
      refine WR.fin (by kernel_rfl) ?_
      refine go hK12 ?_
      refine CW.ret ?_
      exact retV (.int .i64 ((x).tmod n)) (by kernel_rfl) ⟨(Chg.refl _ _), by simp only [pickE]; grind⟩
end Go.V
