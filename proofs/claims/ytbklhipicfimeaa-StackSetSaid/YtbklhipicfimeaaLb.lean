import Derived.Test.YtbklhipicfimeaaProg
import Derived.Test.YtbklhipicfimeaaLa
namespace Go.V
open Go.RowKit Go.Proofs
structure Do where
  op : Int
  which : Int
  size : Int
  at_ : Int
instance : Inhabited Do := ⟨⟨0, 0, 0, 0⟩⟩
def Do.c (d : Do) : List Value := [.int .i64 d.op, .int .i64 d.which, .int .i64 d.size, .int .i64 d.at_]
def Do.good (d : Do) : Prop := (-9223372036854775808 ≤ d.op ∧ d.op ≤ 9223372036854775807) ∧ (-9223372036854775808 ≤ d.which ∧ d.which ≤ 9223372036854775807) ∧ (-9223372036854775808 ≤ d.size ∧ d.size ≤ 9223372036854775807) ∧ (-9223372036854775808 ≤ d.at_ ∧ d.at_ ≤ 9223372036854775807)
abbrev Do.cs (l : List Do) : List Value := l.flatMap Do.c
theorem Do.at (l : List Do) (k j : Nat) (hj : j < 4) (hk : k < l.length) : (Do.cs l)[k * 4 + j]? = ((l.getD k default).c)[j]? := flatMap_at (sz := 4) (fun _ => rfl) k j hj hk
theorem Do.ne (l : List Do) (k : Nat) (hk : k < l.length) : Do.cs l ≠ [] := flatMap_ne (sz := 4) (fun _ => rfl) (by decide) k hk
theorem Do.goodAt {l : List Do} (h : ∀ d ∈ l, d.good) {k : Nat} (hk : k < l.length) : (l.getD k default).good := allAt h hk

def rowSz (d : Do) : Int := ([1, 2, 4, 8] : List Int).getD (pickE d.size 4).toNat 0
def rowAt (d : Do) : Int := pickE d.at_ (513 - rowSz d) - 512
def rowTo (ds : List Do) (k : Nat) : List Bool := (ds.take k).foldl (fun us d => setL us (rowAt d) (rowSz d)) newL
def rowL (ds : List Do) : List Bool := rowTo ds (min ds.length 60)
theorem rowTo_succ {ds : List Do} {k : Nat} (h : k < ds.length) : rowTo ds (k + 1) = setL (rowTo ds k) (rowAt (ds.getD k default)) (rowSz (ds.getD k default)) := by
  unfold rowTo
  rw [List.take_succ_eq_append_getElem h, List.foldl_append, List.getD_eq_getElem?_getD, List.getElem?_eq_getElem h]
  rfl
theorem rowSz_or (d : Do) : rowSz d = 1 ∨ rowSz d = 2 ∨ rowSz d = 4 ∨ rowSz d = 8 := by
  have h := pickE_bd d.size 4 (by decide)
  unfold rowSz
  generalize hn : (pickE d.size 4).toNat = n
  have : n < 4 := by omega
  match n, this with
  | 0, _ => exact .inl rfl
  | 1, _ => exact .inr (.inl rfl)
  | 2, _ => exact .inr (.inr (.inl rfl))
  | 3, _ => exact .inr (.inr (.inr rfl))
theorem rowPlace (d : Do) : placeE 512 (rowAt d) (rowSz d) = 0 := by
  have h := rowSz_or d
  have h2 := pickE_bd d.at_ (513 - rowSz d) (by omega)
  unfold placeE rowAt
  rw [if_neg (by omega), if_neg (by omega)]
theorem setL_512 {us : List Bool} (h : us.length = 512) {at_ size : Int} (hp : placeE 512 at_ size = 0) : (setL us at_ size).length = 512 := by
  rw [setL_ok (by rw [h]; exact hp), setTo_len, h]
theorem rowTo_len (ds : List Do) (k : Nat) : (rowTo ds k).length = 512 := by
  have key : ∀ (l : List Do) (us : List Bool), us.length = 512 → (l.foldl (fun us d => setL us (rowAt d) (rowSz d)) us).length = 512 := by
    intro l
    induction l with
    | nil => intro us h; exact h
    | cons d l ih => intro us h; exact ih _ (setL_512 h (rowPlace d))
  exact key _ _ newL_len
theorem rowL_len (ds : List Do) : (rowL ds).length = 512 := rowTo_len _ _
theorem read_one {us : List Bool} (h : us.length = 512) {i : Nat} (hi : i < 512) : (readE us ((i : Int) - 512) 1 == 0) = us.getD i false := by
  have hp : placeE us.length ((i : Int) - 512) 1 = 0 := by unfold placeE; rw [if_neg (by omega), if_neg (by omega)]
  have e : ((i : Int) - 512 + 512).toNat = i := by omega
  have e2 : allB us i (1 : Int).toNat = us.getD i false := by simp [allB, List.range_succ]
  unfold readE
  rw [if_neg (by omega), e, e2]
  cases us.getD i false <;> rfl
theorem joinL_512 {us bs : List Bool} (ha : us.length = 512) (hb : bs.length = 512) : (joinL us bs).length = 512 := by rw [joinL_ok ⟨ha, hb⟩, joinTo_len]
theorem joinL_getD {us bs : List Bool} (ha : us.length = 512) (hb : bs.length = 512) (i : Nat) : (joinL us bs).getD i false = (us.getD i false && bs.getD i false) := by
  rw [joinL_ok ⟨ha, hb⟩]
  by_cases hi : i < 512
  · simp [joinTo, List.getD_eq_getElem?_getD, hi]
  · simp [joinTo, List.getD_eq_getElem?_getD, hi, List.getElem?_eq_none (show us.length ≤ i by omega)]
theorem allB_join {us bs : List Bool} (ha : us.length = 512) (hb : bs.length = 512) (o n : Nat) : allB (joinL us bs) o n = (allB us o n && allB bs o n) := by
  induction n with
  | zero => rfl
  | succ n ih => rw [allB_succ, allB_succ, allB_succ, ih, joinL_getD ha hb]; cases allB us o n <;> cases allB bs o n <;> simp
theorem read_join {us bs : List Bool} (ha : us.length = 512) (hb : bs.length = 512) (at_ size : Int) : (readE (joinL us bs) at_ size == 0) = ((readE us at_ size == 0) && (readE bs at_ size == 0)) := by
  have e1 : placeE (joinL us bs).length at_ size = placeE us.length at_ size := by rw [joinL_512 ha hb, ha]
  have e2 : placeE bs.length at_ size = placeE us.length at_ size := by rw [ha, hb]
  unfold readE
  rw [e1, e2]
  by_cases hp : placeE us.length at_ size = 0
  · have hq : ¬ (placeE us.length at_ size ≠ 0) := fun h => h hp
    rw [if_neg hq, if_neg hq, if_neg hq, allB_join ha hb]
    cases allB us (at_ + 512).toNat size.toNat <;> cases allB bs (at_ + 512).toNat size.toNat <;> rfl
  · rw [if_pos hp, if_pos hp, if_pos hp, show (placeE us.length at_ size == 0) = false from by simpa using hp]; rfl
theorem read_join_yes {us bs : List Bool} (ha : us.length = 512) (hb : bs.length = 512) {at_ size : Int} (h : readE us at_ size = 0) : ((readE bs at_ size == 0) == (readE (joinL us bs) at_ size == 0)) = true := by
  rw [read_join ha hb, h]; simp
theorem read_join_no {us bs : List Bool} (ha : us.length = 512) (hb : bs.length = 512) {at_ size : Int} (h : readE us at_ size ≠ 0) : (false == (readE (joinL us bs) at_ size == 0)) = true := by
  rw [read_join ha hb, show (readE us at_ size == 0) = false from by simpa using h]; simp
theorem withinB_iff (xs ys : List Bool) (m : Nat) : withinB xs ys m = true ↔ ∀ i, i < m → ys.getD i false = true → xs.getD i false = true := by
  unfold withinB
  rw [List.all_eq_true]
  constructor
  · intro h i hi hy
    have := h i (List.mem_range.2 hi)
    rw [hy] at this
    cases hx : xs.getD i false with
    | true => rfl
    | false => rw [hx] at this; cases this
  · intro h i hi
    cases hy : ys.getD i false with
    | false => rfl
    | true => rw [h i (List.mem_range.1 hi) hy]; rfl
theorem within_iff {xs ys : List Bool} (hx : xs.length = 512) (hy : ys.length = 512) : withinE xs ys = withinB xs ys 512 := by simp [withinE, hx, hy]
theorem within_join1 {us bs : List Bool} (ha : us.length = 512) (hb : bs.length = 512) : withinE us (joinL us bs) = true := by
  rw [within_iff ha (joinL_512 ha hb), withinB_iff]
  intro i _ h
  rw [joinL_getD ha hb, Bool.and_eq_true] at h
  exact h.1
theorem within_join2 {us bs : List Bool} (ha : us.length = 512) (hb : bs.length = 512) : withinE bs (joinL us bs) = true := by
  rw [within_iff hb (joinL_512 ha hb), withinB_iff]
  intro i _ h
  rw [joinL_getD ha hb, Bool.and_eq_true] at h
  exact h.2
theorem within_swap {us bs : List Bool} (ha : us.length = 512) (hb : bs.length = 512) : (withinE (joinL us bs) us == withinE bs us) = true := by
  have : withinE (joinL us bs) us = withinE bs us := by
    rw [within_iff (joinL_512 ha hb) ha, within_iff hb ha, Bool.eq_iff_iff, withinB_iff, withinB_iff]
    constructor
    · intro h i hi hy
      have := h i hi hy
      rw [joinL_getD ha hb, Bool.and_eq_true] at this
      exact this.2
    · intro h i hi hy
      rw [joinL_getD ha hb, hy, h i hi hy]; rfl
  rw [this]; exact beq_self_eq_true _

theorem row_any (ad0 : Option Addr) (cap0 : Nat) (ds : List Do) (w : World) (h0 : Rg w ad0 (Do.cs ds)) (hg : ∀ d ∈ ds, d.good) : Calls Try.prog 23 #[.slice ad0 ds.length cap0] w (Ret [] w fun v w' => ∃ ad cap e ad2 cap2 e2, v = .tuple #[.slice ad (rowL ds).length cap, .slice ad2 512 cap2] ∧ Own w' w.heap.size e 1 ad (rowL ds).length cap (bo (rowL ds)) ∧ Own w' w.heap.size e2 1 ad2 512 cap2 (bo (rowL ds))) := by
  refine calls_of_CW Try.func23 rfl (n := 66) Try.ntmps23 (by kernel_rfl) [0] (F := [(0, .slice ad0 ds.length cap0)]) (by kernel_rfl) ?_
  refine CW.seq fun K1 hK1 => ?_
  refine CW.region ?_
  refine WR.batch 2 [(0, .slice ad0 ds.length cap0)] (by kernel_rfl) ?_
  refine WR.fin (by kernel_rfl) ?_
  refine go hK1 ?_
  refine CW.seq fun K2 hK2 => ?_
  refine CW.keep [0] (F' := [(0, .slice ad0 ds.length cap0)]) (by kernel_rfl) ?_
  refine CW.regionF 3 [0, 1] [(2, 0)] (by kernel_rfl) (fun w' => Chg [] w w') (fun i v w' => match i with | 0 => ∃ ad cap e, v = .slice ad (newL).length cap ∧ Own w' w.heap.size e 1 ad (newL).length cap (bo (newL)) | 1 => ∃ ad cap e, v = .slice ad 512 cap ∧ Own w' w.heap.size e 1 ad 512 cap (bo (List.replicate (512) false)) | 2 => True | _ => True) (fun j x w hj h => match j, hj, h with | 0, hj, h => ownLt h | 1, hj, h => ownLt h | 2, hj, h => absurd hj (by decide) | j + 3, hj, _ => absurd hj (by simp)) (by kernel_rfl) (by kernel_rfl) (by kernel_rfl) (Chg.drew w) (fun _ _ h h' => h.pure h') ?_ ⟨?_, ?_, ?_, trivial⟩ ?_
  ·
    intro i v w1 w2 h hc
    match i, h with
    | 0, h => exact h.elim fun ad h => h.elim fun cap h => h.elim fun e h => ⟨ad, cap, e, h.1, h.2.pure hc⟩
    | 1, h => exact h.elim fun ad h => h.elim fun cap h => h.elim fun e h => ⟨ad, cap, e, h.1, h.2.pure hc⟩
    | 2, h => exact h
    | n + 3, h => trivial
  ·
    intro u5 w6 hW7 hp8
    have hz10 := hW7.size
    have hC9 := (Chg.refl [] w).pure hW7
    refine WR.eqF (F' := [(12, u5 0), (13, u5 1), (4, u5 2), (0, .slice ad0 ds.length cap0)]) (by kernel_rfl) ?_
    refine WR.call (dst := some 12) (by kernel_rfl) (New_any w6) ?_
    rintro _ w15 hc16 ⟨ad11, cap12, e14, rfl, ho13⟩
    have hz18 := hc16.size
    have hC17 := hC9.pure hc16
    refine WR.fin (by kernel_rfl) ?_
    exact fun _ ha => ⟨hc16, _, ha.cast (by kernel_rfl), ⟨⟨fun _ => orMap ho13.ge id (fun h => by simp only [adOf]; omega), alNone (by decide)⟩, ⟨ad11, cap12, _, rfl, ho13.weak (by omega)⟩⟩⟩
  ·
    intro u19 w20 hW21 hp22
    have hz24 := hW21.size
    have hC23 := (Chg.refl [] w).pure hW21
    refine WR.eqF (F' := [(12, u19 0), (13, u19 1), (4, u19 2), (0, .slice ad0 ds.length cap0)]) (by kernel_rfl) ?_
    refine WR.make (dst := some 13) (t := 22) (e := 4) (kl := .i64) (kc := .i64) (l := (512 : Int)) (c := (512 : Int)) (sz := 1) (by_ := 1) (zc := #[.bool false]) (by kernel_rfl) (by kernel_rfl) (512) (512) (by omega) (by omega) (by omega) (by omega) (by omega) ?_
    intro g25 w26 hN27
    have hf29 := hN27.fresh
    have hc30 := hN27.chg
    have hz32 := hc30.size
    have hC31 := hC23.pure hc30
    have ho28 : Own w26 w20.heap.size 4 1 (some ⟨g25, 0, none⟩) (512) (512) (bo (List.replicate (512) false)) := by rw [boRep, ← made1 _ _ (512) (by omega)]; exact Own.made hN27 (m := 512) (by omega) (by omega)
    refine WR.fin (by kernel_rfl) ?_
    exact fun _ ha => ⟨hc30, _, ha.cast (by kernel_rfl), ⟨⟨fun _ => orMap ho28.ge id (fun h => by simp only [adOf]; omega), alNone (by decide)⟩, ⟨(some ⟨g25, 0, none⟩), 512, _, rfl, ho28.weak (by omega)⟩⟩⟩
  ·
    intro u33 w34 hW35 hp36
    have hz38 := hW35.size
    have hC37 := (Chg.refl [] w).pure hW35
    obtain ⟨ad40, cap41, e42, hp39, ho43⟩ : ∃ ad cap e, u33 0 = .slice ad (newL).length cap ∧ Own w34 w.heap.size e 1 ad (newL).length cap (bo (newL)) := hp36 0 (by kernel_rfl)
    refine WR.eqF (F' := [(12, u33 0), (13, u33 1), (4, u33 2), (0, .slice ad0 ds.length cap0)]) (by kernel_rfl) ?_
    refine WR.eqF (F' := [(12, .slice ad40 (newL).length cap41), (13, u33 1), (4, u33 2), (0, .slice ad0 ds.length cap0)]) (by rw [hp39]) ?_
    refine WR.valR (dst := some 4) (v := .slice ad40 (newL).length cap41) (w' := w34) (by kernel_rfl) ?_
    refine WR.fin (by kernel_rfl) ?_
    exact fun _ ha => ⟨Chg.refl _ _, _, ha.cast (show upd [(12, .slice ad40 (newL).length cap41), (13, u33 1), (4, u33 2), (0, .slice ad0 ds.length cap0)] (some 4) _ = upd [(12, u33 0), (13, u33 1), (4, u33 2), (0, .slice ad0 ds.length cap0)] (some 4) _ from by rw [hp39]), ⟨⟨fun h => absurd h (by decide), alOne (s := 0) (by decide) hp39⟩, trivial⟩⟩
  ·
    intro u44 w45 hW46 hr47 hD48 hal49
    have hz51 := hW46.size
    have hC50 := (Chg.refl [] w).pure hW46
    obtain ⟨ad53, cap54, e55, hp52, ho56⟩ : ∃ ad cap e, u44 0 = .slice ad (newL).length cap ∧ Own w45 w.heap.size e 1 ad (newL).length cap (bo (newL)) := hr47 0 (by omega)
    obtain ⟨ad58, cap59, e60, hp57, ho61⟩ : ∃ ad cap e, u44 1 = .slice ad 512 cap ∧ Own w45 w.heap.size e 1 ad 512 cap (bo (List.replicate (512) false)) := hr47 1 (by omega)
    have hp62 := (hal49 (2, 0) (by decide) (by decide)).trans hp52
    have hap63 : Apart ad58 ad53 := by have h := hD48 1 0 (by omega) (by omega) (by decide) (by decide) (by decide); rw [hp57, hp52] at h; exact h
    refine WR.keep [0, 4, 13] (F' := [(0, .slice ad0 ds.length cap0), (4, u44 2), (13, u44 1)]) (by kernel_rfl) ?_
    refine WR.eqF (F' := [(0, .slice ad0 ds.length cap0), (4, .slice ad53 (newL).length cap54), (13, .slice ad58 512 cap59)]) (by rw [hp57, hp62]) ?_
    refine WR.batch 1 [(0, .slice ad0 ds.length cap0), (4, .slice ad53 (newL).length cap54), (5, .slice ad58 512 cap59)] (by kernel_rfl) ?_
    refine WR.fin (by kernel_rfl) ?_
    refine go hK2 ?_
    refine CW.seq fun K64 hK64 => ?_
    refine CW.seq fun K65 hK65 => ?_
    refine CW.region ?_
    refine WR.batch 1 [(0, .slice ad0 ds.length cap0), (4, .slice ad53 (newL).length cap54), (5, .slice ad58 512 cap59), (6, .int .i64 (0 : Int))] (by kernel_rfl) ?_
    refine WR.fin (by kernel_rfl) ?_
    refine go hK65 ?_
    refine CW.block ?_
    refine CW.loop (σ := Nat × Option Addr × Nat × Nat × List Bool) (fun (⟨k, ad, cap, ev, us⟩ : Nat × Option Addr × Nat × Nat × List Bool) w66 => Chg [] w w66 ∧ (k ≤ ds.length) ∧ (k ≤ 60) ∧ (Own w66 w.heap.size ev 1 ad us.length cap (bo us)) ∧ (Apart ad ad58) ∧ (us = rowTo ds k) ∧ (Own w66 w.heap.size e60 1 ad58 512 cap59 (bo (us)))) (fun (⟨k, ad, cap, ev, us⟩ : Nat × Option Addr × Nat × Nat × List Bool) => [(0, .slice ad0 ds.length cap0), (4, .slice ad us.length cap), (5, .slice ad58 512 cap59), (6, .int .i64 ((k : Nat) : Int))]) (fun (⟨k, ad, cap, ev, us⟩ : Nat × Option Addr × Nat × Nat × List Bool) => 60 - k) (⟨0, ad53, cap54, e55, newL⟩) ⟨hC50, (by omega), (by omega), ho56.weak (by omega), hap63.symm, rfl, ho61⟩ [0, 4, 5, 6] (by kernel_rfl) ?_
    rintro ⟨k, ad, cap, ev, us⟩ w66 ⟨hC67, hk, hk6, hoa, hap, has, hv68⟩
    have hasl : us.length = 512 := (by rw [has]; exact rowTo_len _ _)
    refine CW.seq fun K69 hK69 => ?_
    refine CW.seq fun K70 hK70 => ?_
    refine CW.region ?_
    refine WR.batch 5 [(0, .slice ad0 ds.length cap0), (4, .slice ad us.length cap), (5, .slice ad58 512 cap59), (6, .int .i64 ((k : Nat) : Int)), (18, .bool (decide (((k : Nat) : Int) < ((ds.length : Nat) : Int))))] (by kernel_rfl) ?_
    refine WR.batch 3 [(0, .slice ad0 ds.length cap0), (4, .slice ad us.length cap), (5, .slice ad58 512 cap59), (6, .int .i64 ((k : Nat) : Int)), (21, .bool ((decide (((k : Nat) : Int) < ((ds.length : Nat) : Int))) && (decide (((k : Nat) : Int) < (60 : Int)))))] (by generalize decide (((k : Nat) : Int) < ((ds.length : Nat) : Int)) = b; cases b <;> kernel_rfl) ?_
    refine WR.fin (by kernel_rfl) ?_
    refine go hK70 ?_
    refine CW.cond (((decide (((k : Nat) : Int) < ((ds.length : Nat) : Int))) && (decide (((k : Nat) : Int) < (60 : Int))))) (by kernel_rfl) (fun ht71 => ?_) (fun ht71 => ?_)
    ·
      replace ht71 : (((k : Nat) : Int) < ((ds.length : Nat) : Int)) ∧ (((k : Nat) : Int) < (60 : Int)) := ⟨(of_decide_eq_true (bAndT ht71).1), (of_decide_eq_true (bAndT ht71).2)⟩
      refine CW.skip ?_
      refine go hK69 ?_
      refine CW.seq fun K72 hK72 => ?_
      refine CW.block ?_
      refine CW.seq fun K73 hK73 => ?_
      refine CW.region ?_
      refine WR.bslice (dst := some 24) (len := 4) (e := 3) #[.int .i64 (1 : Int), .int .i64 (2 : Int), .int .i64 (4 : Int), .int .i64 (8 : Int)] (by kernel_rfl) ?_
      intro g74 w75 hN76
      have hf78 : w.heap.size ≤ g74 := Nat.le_trans hC67.size hN76.fresh
      have hfr80 := hN76.fresh
      have hc79 := hN76.chg
      have hz82 := hc79.size
      have hC81 := hC67.pure hc79
      have ho83 := hv68.pure hc79
      have ho84 := hoa.pure hc79
      have hb77 := hN76.blk
      have hg85 := hb77.lt
      refine WR.batch 2 [(0, .slice ad0 ds.length cap0), (4, .slice ad us.length cap), (5, .slice ad58 512 cap59), (6, .int .i64 ((k : Nat) : Int)), (24, .slice (some ⟨g74, 0, none⟩) 4 4), (25, .slice ad0 ds.length cap0), (26, .int .i64 ((k : Nat) : Int))] (by kernel_rfl) ?_
      refine WR.index (dst := some 27) (t := 33) (m := ds.length) (cap := cap0) (kk := .i64) (i := ((k : Nat) : Int)) (h0.pure hC81) (by kernel_rfl) 4 (by kernel_rfl) (by omega) (by omega) (Do.ne ds k (by omega)) (k * 4) (by omega) ?_
      refine WR.batch 1 [(0, .slice ad0 ds.length cap0), (4, .slice ad us.length cap), (5, .slice ad58 512 cap59), (6, .int .i64 ((k : Nat) : Int)), (24, .slice (some ⟨g74, 0, none⟩) 4 4), (28, .pointer (some ⟨bk ad0, of ad0 + ((k * 4) + 2), none⟩))] (by kernel_rfl) ?_
      refine WR.load1 (dst := some 29) (t := 3) (a := ⟨bk ad0, of ad0 + ((k * 4) + 2), none⟩) (by kernel_rfl) (by kernel_rfl) (.int .i64 (ds.getD k default).size) ((h0.pure hC81) _ _ (Do.at ds k 2 (by decide) (by omega))).2 ?_
      have hgd2 := Do.goodAt hg (k := k) (by omega)
      simp only [Do.good] at hgd2
      have hge86 := ho83.ge
      have hge87 := ho84.ge
      refine WR.call (dst := some 30) (by kernel_rfl) (pick_any (ds.getD k default).size (4 : Int) w75 (by omega)) ?_
      rintro _ w88 hc89 rfl
      have hz91 := hc89.size
      have hC90 := hC81.pure hc89
      have hb92 := hb77.pure hc89
      have ho93 := ho83.pure hc89
      have ho94 := ho84.pure hc89
      have hpk95 := pickE_bd (ds.getD k default).size (4 : Int) (by omega)
      refine WR.indexS (dst := some 31) (t := 40) (b := g74) (o := 0) (m := 4) (cap := 4) (kk := .i64) (i := pickE (ds.getD k default).size (4 : Int)) (by kernel_rfl) 1 (by kernel_rfl) ((pickE (ds.getD k default).size (4 : Int)).toNat) (by omega) (by omega) ((pickE (ds.getD k default).size (4 : Int)).toNat) (by omega) ?_
      refine WR.load1 (dst := some 32) (t := 3) (a := ⟨g74, (pickE (ds.getD k default).size (4 : Int)).toNat, none⟩) (by kernel_rfl) (by kernel_rfl) (.int .i64 (([(1 : Int), (2 : Int), (4 : Int), (8 : Int)] : List Int).getD (pickE (ds.getD k default).size (4 : Int)).toNat 0)) (blkInts .i64 [(1 : Int), (2 : Int), (4 : Int), (8 : Int)] hb92 (by simp only [List.length_cons, List.length_nil]; omega)) ?_
      have hib96 := intsBd [(1 : Int), (2 : Int), (4 : Int), (8 : Int)] (1) (8) (by decide) (j := (pickE (ds.getD k default).size (4 : Int)).toNat) (by simp only [List.length_cons, List.length_nil]; omega)
      refine WR.batch 1 [(0, .slice ad0 ds.length cap0), (4, .slice ad us.length cap), (5, .slice ad58 512 cap59), (6, .int .i64 ((k : Nat) : Int)), (7, .int .i64 (([(1 : Int), (2 : Int), (4 : Int), (8 : Int)] : List Int).getD (pickE (ds.getD k default).size (4 : Int)).toNat 0))] (by kernel_rfl) ?_
      refine WR.fin (by kernel_rfl) ?_
      refine go hK73 ?_
      refine CW.seq fun K97 hK97 => ?_
      refine CW.region ?_
      refine WR.batch 2 [(0, .slice ad0 ds.length cap0), (4, .slice ad us.length cap), (5, .slice ad58 512 cap59), (6, .int .i64 ((k : Nat) : Int)), (7, .int .i64 (([(1 : Int), (2 : Int), (4 : Int), (8 : Int)] : List Int).getD (pickE (ds.getD k default).size (4 : Int)).toNat 0)), (33, .slice ad0 ds.length cap0), (34, .int .i64 ((k : Nat) : Int))] (by kernel_rfl) ?_
      refine WR.index (dst := some 35) (t := 33) (m := ds.length) (cap := cap0) (kk := .i64) (i := ((k : Nat) : Int)) (h0.pure hC90) (by kernel_rfl) 4 (by kernel_rfl) (by omega) (by omega) (Do.ne ds k (by omega)) (k * 4) (by omega) ?_
      refine WR.batch 1 [(0, .slice ad0 ds.length cap0), (4, .slice ad us.length cap), (5, .slice ad58 512 cap59), (6, .int .i64 ((k : Nat) : Int)), (7, .int .i64 (([(1 : Int), (2 : Int), (4 : Int), (8 : Int)] : List Int).getD (pickE (ds.getD k default).size (4 : Int)).toNat 0)), (36, .pointer (some ⟨bk ad0, of ad0 + ((k * 4) + 3), none⟩))] (by kernel_rfl) ?_
      refine WR.load1 (dst := some 37) (t := 2) (a := ⟨bk ad0, of ad0 + ((k * 4) + 3), none⟩) (by kernel_rfl) (by kernel_rfl) (.int .i64 (ds.getD k default).at_) ((h0.pure hC90) _ _ (Do.at ds k 3 (by decide) (by omega))).2 ?_
      have hgd3 := Do.goodAt hg (k := k) (by omega)
      simp only [Do.good] at hgd3
      refine WR.batch 2 [(0, .slice ad0 ds.length cap0), (4, .slice ad us.length cap), (5, .slice ad58 512 cap59), (6, .int .i64 ((k : Nat) : Int)), (7, .int .i64 (([(1 : Int), (2 : Int), (4 : Int), (8 : Int)] : List Int).getD (pickE (ds.getD k default).size (4 : Int)).toNat 0)), (37, .int .i64 (ds.getD k default).at_), (39, .int .i64 (IntKind.i64.wrap ((513 : Int) - (([(1 : Int), (2 : Int), (4 : Int), (8 : Int)] : List Int).getD (pickE (ds.getD k default).size (4 : Int)).toNat 0))))] (by kernel_rfl) ?_
      have hw98 : IntKind.i64.wrap ((513 : Int) - (([(1 : Int), (2 : Int), (4 : Int), (8 : Int)] : List Int).getD (pickE (ds.getD k default).size (4 : Int)).toNat 0)) = ((513 : Int) - (([(1 : Int), (2 : Int), (4 : Int), (8 : Int)] : List Int).getD (pickE (ds.getD k default).size (4 : Int)).toNat 0)) := IntWalk.i64_in _ (by omega)
      refine WR.eqF (F' := [(0, .slice ad0 ds.length cap0), (4, .slice ad us.length cap), (5, .slice ad58 512 cap59), (6, .int .i64 ((k : Nat) : Int)), (7, .int .i64 (([(1 : Int), (2 : Int), (4 : Int), (8 : Int)] : List Int).getD (pickE (ds.getD k default).size (4 : Int)).toNat 0)), (37, .int .i64 (ds.getD k default).at_), (39, .int .i64 ((513 : Int) - (([(1 : Int), (2 : Int), (4 : Int), (8 : Int)] : List Int).getD (pickE (ds.getD k default).size (4 : Int)).toNat 0)))]) (by rw [hw98]) ?_
      have hge99 := ho93.ge
      have hge100 := ho94.ge
      refine WR.call (dst := some 40) (by kernel_rfl) (pick_any (ds.getD k default).at_ ((513 : Int) - (([(1 : Int), (2 : Int), (4 : Int), (8 : Int)] : List Int).getD (pickE (ds.getD k default).size (4 : Int)).toNat 0)) w88 (by omega)) ?_
      rintro _ w101 hc102 rfl
      have hz104 := hc102.size
      have hC103 := hC90.pure hc102
      have hb105 := hb92.pure hc102
      have ho106 := ho93.pure hc102
      have ho107 := ho94.pure hc102
      have hpk108 := pickE_bd (ds.getD k default).at_ ((513 : Int) - (([(1 : Int), (2 : Int), (4 : Int), (8 : Int)] : List Int).getD (pickE (ds.getD k default).size (4 : Int)).toNat 0)) (by omega)
      refine WR.batch 1 [(0, .slice ad0 ds.length cap0), (4, .slice ad us.length cap), (5, .slice ad58 512 cap59), (6, .int .i64 ((k : Nat) : Int)), (7, .int .i64 (([(1 : Int), (2 : Int), (4 : Int), (8 : Int)] : List Int).getD (pickE (ds.getD k default).size (4 : Int)).toNat 0)), (41, .int .i64 (IntKind.i64.wrap ((pickE (ds.getD k default).at_ ((513 : Int) - (([(1 : Int), (2 : Int), (4 : Int), (8 : Int)] : List Int).getD (pickE (ds.getD k default).size (4 : Int)).toNat 0))) - (512 : Int))))] (by kernel_rfl) ?_
      have hw109 : IntKind.i64.wrap ((pickE (ds.getD k default).at_ ((513 : Int) - (([(1 : Int), (2 : Int), (4 : Int), (8 : Int)] : List Int).getD (pickE (ds.getD k default).size (4 : Int)).toNat 0))) - (512 : Int)) = ((pickE (ds.getD k default).at_ ((513 : Int) - (([(1 : Int), (2 : Int), (4 : Int), (8 : Int)] : List Int).getD (pickE (ds.getD k default).size (4 : Int)).toNat 0))) - (512 : Int)) := IntWalk.i64_in _ (by omega)
      refine WR.eqF (F' := [(0, .slice ad0 ds.length cap0), (4, .slice ad us.length cap), (5, .slice ad58 512 cap59), (6, .int .i64 ((k : Nat) : Int)), (7, .int .i64 (([(1 : Int), (2 : Int), (4 : Int), (8 : Int)] : List Int).getD (pickE (ds.getD k default).size (4 : Int)).toNat 0)), (41, .int .i64 ((pickE (ds.getD k default).at_ ((513 : Int) - (([(1 : Int), (2 : Int), (4 : Int), (8 : Int)] : List Int).getD (pickE (ds.getD k default).size (4 : Int)).toNat 0))) - (512 : Int)))]) (by rw [hw109]) ?_
      refine WR.batch 1 [(0, .slice ad0 ds.length cap0), (4, .slice ad us.length cap), (5, .slice ad58 512 cap59), (6, .int .i64 ((k : Nat) : Int)), (7, .int .i64 (([(1 : Int), (2 : Int), (4 : Int), (8 : Int)] : List Int).getD (pickE (ds.getD k default).size (4 : Int)).toNat 0)), (8, .int .i64 ((pickE (ds.getD k default).at_ ((513 : Int) - (([(1 : Int), (2 : Int), (4 : Int), (8 : Int)] : List Int).getD (pickE (ds.getD k default).size (4 : Int)).toNat 0))) - (512 : Int)))] (by kernel_rfl) ?_
      refine WR.fin (by kernel_rfl) ?_
      refine go hK97 ?_
      refine CW.seq fun K110 hK110 => ?_
      refine CW.region ?_
      refine WR.batch 3 [(0, .slice ad0 ds.length cap0), (5, .slice ad58 512 cap59), (6, .int .i64 ((k : Nat) : Int)), (7, .int .i64 (([(1 : Int), (2 : Int), (4 : Int), (8 : Int)] : List Int).getD (pickE (ds.getD k default).size (4 : Int)).toNat 0)), (8, .int .i64 ((pickE (ds.getD k default).at_ ((513 : Int) - (([(1 : Int), (2 : Int), (4 : Int), (8 : Int)] : List Int).getD (pickE (ds.getD k default).size (4 : Int)).toNat 0))) - (512 : Int))), (43, .slice ad us.length cap), (44, .int .i64 ((pickE (ds.getD k default).at_ ((513 : Int) - (([(1 : Int), (2 : Int), (4 : Int), (8 : Int)] : List Int).getD (pickE (ds.getD k default).size (4 : Int)).toNat 0))) - (512 : Int))), (45, .int .i64 (([(1 : Int), (2 : Int), (4 : Int), (8 : Int)] : List Int).getD (pickE (ds.getD k default).size (4 : Int)).toNat 0))] (by kernel_rfl) ?_
      have hge115 := ho106.ge
      have hge116 := ho107.ge
      refine WR.call (dst := some 46) (by kernel_rfl) (Set_any ad cap us ((pickE (ds.getD k default).at_ ((513 : Int) - (([(1 : Int), (2 : Int), (4 : Int), (8 : Int)] : List Int).getD (pickE (ds.getD k default).size (4 : Int)).toNat 0))) - (512 : Int)) (([(1 : Int), (2 : Int), (4 : Int), (8 : Int)] : List Int).getD (pickE (ds.getD k default).size (4 : Int)).toNat 0) w101 ho107.rg) ?_
      rintro _ w117 hc118 ⟨ad111, cap112, e114, rfl, ho113⟩
      have hz120 := hc118.size
      have hC119 := hC103.pure hc118
      have hb121 := hb105.pure hc118
      have ho122 := ho106.pure hc118
      have ho123 := ho107.pure hc118
      have hap124 := Apart.new hge115 ho113 (by omega)
      have hap125 := Apart.new hge116 ho113 (by omega)
      refine WR.batch 5 [(0, .slice ad0 ds.length cap0), (5, .slice ad58 512 cap59), (6, .int .i64 ((k : Nat) : Int)), (7, .int .i64 (([(1 : Int), (2 : Int), (4 : Int), (8 : Int)] : List Int).getD (pickE (ds.getD k default).size (4 : Int)).toNat 0)), (8, .int .i64 ((pickE (ds.getD k default).at_ ((513 : Int) - (([(1 : Int), (2 : Int), (4 : Int), (8 : Int)] : List Int).getD (pickE (ds.getD k default).size (4 : Int)).toNat 0))) - (512 : Int))), (9, .slice ad111 (setL us ((pickE (ds.getD k default).at_ ((513 : Int) - (([(1 : Int), (2 : Int), (4 : Int), (8 : Int)] : List Int).getD (pickE (ds.getD k default).size (4 : Int)).toNat 0))) - (512 : Int)) (([(1 : Int), (2 : Int), (4 : Int), (8 : Int)] : List Int).getD (pickE (ds.getD k default).size (4 : Int)).toNat 0)).length cap112), (10, .int .i64 (placeE (us).length ((pickE (ds.getD k default).at_ ((513 : Int) - (([(1 : Int), (2 : Int), (4 : Int), (8 : Int)] : List Int).getD (pickE (ds.getD k default).size (4 : Int)).toNat 0))) - (512 : Int)) (([(1 : Int), (2 : Int), (4 : Int), (8 : Int)] : List Int).getD (pickE (ds.getD k default).size (4 : Int)).toNat 0)))] (by kernel_rfl) ?_
      refine WR.fin (by kernel_rfl) ?_
      refine go hK110 ?_
      refine CW.seq fun K126 hK126 => ?_
      refine CW.seq fun K127 hK127 => ?_
      refine CW.region ?_
      refine WR.batch 2 [(0, .slice ad0 ds.length cap0), (5, .slice ad58 512 cap59), (6, .int .i64 ((k : Nat) : Int)), (7, .int .i64 (([(1 : Int), (2 : Int), (4 : Int), (8 : Int)] : List Int).getD (pickE (ds.getD k default).size (4 : Int)).toNat 0)), (8, .int .i64 ((pickE (ds.getD k default).at_ ((513 : Int) - (([(1 : Int), (2 : Int), (4 : Int), (8 : Int)] : List Int).getD (pickE (ds.getD k default).size (4 : Int)).toNat 0))) - (512 : Int))), (9, .slice ad111 (setL us ((pickE (ds.getD k default).at_ ((513 : Int) - (([(1 : Int), (2 : Int), (4 : Int), (8 : Int)] : List Int).getD (pickE (ds.getD k default).size (4 : Int)).toNat 0))) - (512 : Int)) (([(1 : Int), (2 : Int), (4 : Int), (8 : Int)] : List Int).getD (pickE (ds.getD k default).size (4 : Int)).toNat 0)).length cap112), (50, .bool ((placeE (us).length ((pickE (ds.getD k default).at_ ((513 : Int) - (([(1 : Int), (2 : Int), (4 : Int), (8 : Int)] : List Int).getD (pickE (ds.getD k default).size (4 : Int)).toNat 0))) - (512 : Int)) (([(1 : Int), (2 : Int), (4 : Int), (8 : Int)] : List Int).getD (pickE (ds.getD k default).size (4 : Int)).toNat 0)) != (0 : Int)))] (by kernel_rfl) ?_
      have hk128 : ((placeE (us).length ((pickE (ds.getD k default).at_ ((513 : Int) - (([(1 : Int), (2 : Int), (4 : Int), (8 : Int)] : List Int).getD (pickE (ds.getD k default).size (4 : Int)).toNat 0))) - (512 : Int)) (([(1 : Int), (2 : Int), (4 : Int), (8 : Int)] : List Int).getD (pickE (ds.getD k default).size (4 : Int)).toNat 0)) != (0 : Int)) = false := bne_eq_false_iff_eq.2 (by rw [hasl]; exact rowPlace (ds.getD k default))
      refine WR.eqF (F' := [(0, .slice ad0 ds.length cap0), (5, .slice ad58 512 cap59), (6, .int .i64 ((k : Nat) : Int)), (7, .int .i64 (([(1 : Int), (2 : Int), (4 : Int), (8 : Int)] : List Int).getD (pickE (ds.getD k default).size (4 : Int)).toNat 0)), (8, .int .i64 ((pickE (ds.getD k default).at_ ((513 : Int) - (([(1 : Int), (2 : Int), (4 : Int), (8 : Int)] : List Int).getD (pickE (ds.getD k default).size (4 : Int)).toNat 0))) - (512 : Int))), (9, .slice ad111 (setL us ((pickE (ds.getD k default).at_ ((513 : Int) - (([(1 : Int), (2 : Int), (4 : Int), (8 : Int)] : List Int).getD (pickE (ds.getD k default).size (4 : Int)).toNat 0))) - (512 : Int)) (([(1 : Int), (2 : Int), (4 : Int), (8 : Int)] : List Int).getD (pickE (ds.getD k default).size (4 : Int)).toNat 0)).length cap112), (50, .bool false)]) (by rw [hk128]) ?_
      refine WR.fin (by kernel_rfl) ?_
      refine go hK127 ?_
      refine CW.no (by kernel_rfl) ?_
      refine CW.skip ?_
      refine go hK126 ?_
      refine CW.seq fun K129 hK129 => ?_
      refine CW.region ?_
      refine WR.batch 2 [(0, .slice ad0 ds.length cap0), (4, .slice ad111 (setL us ((pickE (ds.getD k default).at_ ((513 : Int) - (([(1 : Int), (2 : Int), (4 : Int), (8 : Int)] : List Int).getD (pickE (ds.getD k default).size (4 : Int)).toNat 0))) - (512 : Int)) (([(1 : Int), (2 : Int), (4 : Int), (8 : Int)] : List Int).getD (pickE (ds.getD k default).size (4 : Int)).toNat 0)).length cap112), (5, .slice ad58 512 cap59), (6, .int .i64 ((k : Nat) : Int)), (7, .int .i64 (([(1 : Int), (2 : Int), (4 : Int), (8 : Int)] : List Int).getD (pickE (ds.getD k default).size (4 : Int)).toNat 0)), (8, .int .i64 ((pickE (ds.getD k default).at_ ((513 : Int) - (([(1 : Int), (2 : Int), (4 : Int), (8 : Int)] : List Int).getD (pickE (ds.getD k default).size (4 : Int)).toNat 0))) - (512 : Int)))] (by kernel_rfl) ?_
      refine WR.fin (by kernel_rfl) ?_
      refine go hK129 ?_
      refine CW.seq fun K130 hK130 => ?_
      refine CW.region ?_
      refine WR.batch 1 [(0, .slice ad0 ds.length cap0), (4, .slice ad111 (setL us ((pickE (ds.getD k default).at_ ((513 : Int) - (([(1 : Int), (2 : Int), (4 : Int), (8 : Int)] : List Int).getD (pickE (ds.getD k default).size (4 : Int)).toNat 0))) - (512 : Int)) (([(1 : Int), (2 : Int), (4 : Int), (8 : Int)] : List Int).getD (pickE (ds.getD k default).size (4 : Int)).toNat 0)).length cap112), (5, .slice ad58 512 cap59), (6, .int .i64 ((k : Nat) : Int)), (7, .int .i64 (([(1 : Int), (2 : Int), (4 : Int), (8 : Int)] : List Int).getD (pickE (ds.getD k default).size (4 : Int)).toNat 0)), (8, .int .i64 ((pickE (ds.getD k default).at_ ((513 : Int) - (([(1 : Int), (2 : Int), (4 : Int), (8 : Int)] : List Int).getD (pickE (ds.getD k default).size (4 : Int)).toNat 0))) - (512 : Int))), (11, .int .i64 (0 : Int))] (by kernel_rfl) ?_
      refine WR.fin (by kernel_rfl) ?_
      refine go hK130 ?_
      refine CW.block ?_
      refine CW.loop (σ := Nat) (fun kk w131 => Chg [] w w131 ∧ ((kk : Int) ≤ ([(1 : Int), (2 : Int), (4 : Int), (8 : Int)] : List Int).getD (pickE (ds.getD k default).size (4 : Int)).toNat 0) ∧ (Own w131 w.heap.size e60 1 ad58 512 cap59 (bo (setTo us (((pickE (ds.getD k default).at_ ((513 : Int) - (([(1 : Int), (2 : Int), (4 : Int), (8 : Int)] : List Int).getD (pickE (ds.getD k default).size (4 : Int)).toNat 0))) - (512 : Int)) + 512).toNat kk))) ∧ (Own w131 w101.heap.size e114 1 ad111 (setL us ((pickE (ds.getD k default).at_ ((513 : Int) - (([(1 : Int), (2 : Int), (4 : Int), (8 : Int)] : List Int).getD (pickE (ds.getD k default).size (4 : Int)).toNat 0))) - (512 : Int)) (([(1 : Int), (2 : Int), (4 : Int), (8 : Int)] : List Int).getD (pickE (ds.getD k default).size (4 : Int)).toNat 0)).length cap112 (bo (setL us ((pickE (ds.getD k default).at_ ((513 : Int) - (([(1 : Int), (2 : Int), (4 : Int), (8 : Int)] : List Int).getD (pickE (ds.getD k default).size (4 : Int)).toNat 0))) - (512 : Int)) (([(1 : Int), (2 : Int), (4 : Int), (8 : Int)] : List Int).getD (pickE (ds.getD k default).size (4 : Int)).toNat 0))))) (fun kk => [(0, .slice ad0 ds.length cap0), (4, .slice ad111 (setL us ((pickE (ds.getD k default).at_ ((513 : Int) - (([(1 : Int), (2 : Int), (4 : Int), (8 : Int)] : List Int).getD (pickE (ds.getD k default).size (4 : Int)).toNat 0))) - (512 : Int)) (([(1 : Int), (2 : Int), (4 : Int), (8 : Int)] : List Int).getD (pickE (ds.getD k default).size (4 : Int)).toNat 0)).length cap112), (5, .slice ad58 512 cap59), (6, .int .i64 ((k : Nat) : Int)), (7, .int .i64 (([(1 : Int), (2 : Int), (4 : Int), (8 : Int)] : List Int).getD (pickE (ds.getD k default).size (4 : Int)).toNat 0)), (8, .int .i64 ((pickE (ds.getD k default).at_ ((513 : Int) - (([(1 : Int), (2 : Int), (4 : Int), (8 : Int)] : List Int).getD (pickE (ds.getD k default).size (4 : Int)).toNat 0))) - (512 : Int))), (11, .int .i64 ((kk : Nat) : Int))]) (fun kk => (([(1 : Int), (2 : Int), (4 : Int), (8 : Int)] : List Int).getD (pickE (ds.getD k default).size (4 : Int)).toNat 0).toNat - kk) (0) ⟨hC119, (by omega), ho122, ho113⟩ [0, 4, 5, 6, 7, 8, 11] (by kernel_rfl) ?_
      rintro kk w131 ⟨hC132, hkk, hv133, hv134⟩
      refine CW.seq fun K135 hK135 => ?_
      refine CW.seq fun K136 hK136 => ?_
      refine CW.region ?_
      refine WR.batch 3 [(0, .slice ad0 ds.length cap0), (4, .slice ad111 (setL us ((pickE (ds.getD k default).at_ ((513 : Int) - (([(1 : Int), (2 : Int), (4 : Int), (8 : Int)] : List Int).getD (pickE (ds.getD k default).size (4 : Int)).toNat 0))) - (512 : Int)) (([(1 : Int), (2 : Int), (4 : Int), (8 : Int)] : List Int).getD (pickE (ds.getD k default).size (4 : Int)).toNat 0)).length cap112), (5, .slice ad58 512 cap59), (6, .int .i64 ((k : Nat) : Int)), (7, .int .i64 (([(1 : Int), (2 : Int), (4 : Int), (8 : Int)] : List Int).getD (pickE (ds.getD k default).size (4 : Int)).toNat 0)), (8, .int .i64 ((pickE (ds.getD k default).at_ ((513 : Int) - (([(1 : Int), (2 : Int), (4 : Int), (8 : Int)] : List Int).getD (pickE (ds.getD k default).size (4 : Int)).toNat 0))) - (512 : Int))), (11, .int .i64 ((kk : Nat) : Int)), (55, .bool (decide (((kk : Nat) : Int) < (([(1 : Int), (2 : Int), (4 : Int), (8 : Int)] : List Int).getD (pickE (ds.getD k default).size (4 : Int)).toNat 0))))] (by kernel_rfl) ?_
      refine WR.fin (by kernel_rfl) ?_
      refine go hK136 ?_
      refine CW.cond (decide (((kk : Nat) : Int) < (([(1 : Int), (2 : Int), (4 : Int), (8 : Int)] : List Int).getD (pickE (ds.getD k default).size (4 : Int)).toNat 0))) (by kernel_rfl) (fun ht137 => ?_) (fun ht137 => ?_)
      ·
        replace ht137 : ((kk : Nat) : Int) < (([(1 : Int), (2 : Int), (4 : Int), (8 : Int)] : List Int).getD (pickE (ds.getD k default).size (4 : Int)).toNat 0) := (of_decide_eq_true ht137)
        refine CW.skip ?_
        refine go hK135 ?_
        refine CW.seq fun K138 hK138 => ?_
        refine CW.block ?_
        refine CW.region ?_
        refine WR.batch 3 [(0, .slice ad0 ds.length cap0), (4, .slice ad111 (setL us ((pickE (ds.getD k default).at_ ((513 : Int) - (([(1 : Int), (2 : Int), (4 : Int), (8 : Int)] : List Int).getD (pickE (ds.getD k default).size (4 : Int)).toNat 0))) - (512 : Int)) (([(1 : Int), (2 : Int), (4 : Int), (8 : Int)] : List Int).getD (pickE (ds.getD k default).size (4 : Int)).toNat 0)).length cap112), (5, .slice ad58 512 cap59), (6, .int .i64 ((k : Nat) : Int)), (7, .int .i64 (([(1 : Int), (2 : Int), (4 : Int), (8 : Int)] : List Int).getD (pickE (ds.getD k default).size (4 : Int)).toNat 0)), (8, .int .i64 ((pickE (ds.getD k default).at_ ((513 : Int) - (([(1 : Int), (2 : Int), (4 : Int), (8 : Int)] : List Int).getD (pickE (ds.getD k default).size (4 : Int)).toNat 0))) - (512 : Int))), (11, .int .i64 ((kk : Nat) : Int)), (58, .slice ad58 512 cap59), (60, .int .i64 (IntKind.i64.wrap (((pickE (ds.getD k default).at_ ((513 : Int) - (([(1 : Int), (2 : Int), (4 : Int), (8 : Int)] : List Int).getD (pickE (ds.getD k default).size (4 : Int)).toNat 0))) - (512 : Int)) + (512 : Int))))] (by kernel_rfl) ?_
        have hw139 : IntKind.i64.wrap (((pickE (ds.getD k default).at_ ((513 : Int) - (([(1 : Int), (2 : Int), (4 : Int), (8 : Int)] : List Int).getD (pickE (ds.getD k default).size (4 : Int)).toNat 0))) - (512 : Int)) + (512 : Int)) = (((pickE (ds.getD k default).at_ ((513 : Int) - (([(1 : Int), (2 : Int), (4 : Int), (8 : Int)] : List Int).getD (pickE (ds.getD k default).size (4 : Int)).toNat 0))) - (512 : Int)) + (512 : Int)) := IntWalk.i64_in _ (by omega)
        refine WR.eqF (F' := [(0, .slice ad0 ds.length cap0), (4, .slice ad111 (setL us ((pickE (ds.getD k default).at_ ((513 : Int) - (([(1 : Int), (2 : Int), (4 : Int), (8 : Int)] : List Int).getD (pickE (ds.getD k default).size (4 : Int)).toNat 0))) - (512 : Int)) (([(1 : Int), (2 : Int), (4 : Int), (8 : Int)] : List Int).getD (pickE (ds.getD k default).size (4 : Int)).toNat 0)).length cap112), (5, .slice ad58 512 cap59), (6, .int .i64 ((k : Nat) : Int)), (7, .int .i64 (([(1 : Int), (2 : Int), (4 : Int), (8 : Int)] : List Int).getD (pickE (ds.getD k default).size (4 : Int)).toNat 0)), (8, .int .i64 ((pickE (ds.getD k default).at_ ((513 : Int) - (([(1 : Int), (2 : Int), (4 : Int), (8 : Int)] : List Int).getD (pickE (ds.getD k default).size (4 : Int)).toNat 0))) - (512 : Int))), (11, .int .i64 ((kk : Nat) : Int)), (58, .slice ad58 512 cap59), (60, .int .i64 (((pickE (ds.getD k default).at_ ((513 : Int) - (([(1 : Int), (2 : Int), (4 : Int), (8 : Int)] : List Int).getD (pickE (ds.getD k default).size (4 : Int)).toNat 0))) - (512 : Int)) + (512 : Int)))]) (by rw [hw139]) ?_
        refine WR.batch 2 [(0, .slice ad0 ds.length cap0), (4, .slice ad111 (setL us ((pickE (ds.getD k default).at_ ((513 : Int) - (([(1 : Int), (2 : Int), (4 : Int), (8 : Int)] : List Int).getD (pickE (ds.getD k default).size (4 : Int)).toNat 0))) - (512 : Int)) (([(1 : Int), (2 : Int), (4 : Int), (8 : Int)] : List Int).getD (pickE (ds.getD k default).size (4 : Int)).toNat 0)).length cap112), (5, .slice ad58 512 cap59), (6, .int .i64 ((k : Nat) : Int)), (7, .int .i64 (([(1 : Int), (2 : Int), (4 : Int), (8 : Int)] : List Int).getD (pickE (ds.getD k default).size (4 : Int)).toNat 0)), (8, .int .i64 ((pickE (ds.getD k default).at_ ((513 : Int) - (([(1 : Int), (2 : Int), (4 : Int), (8 : Int)] : List Int).getD (pickE (ds.getD k default).size (4 : Int)).toNat 0))) - (512 : Int))), (11, .int .i64 ((kk : Nat) : Int)), (58, .slice ad58 512 cap59), (62, .int .i64 (IntKind.i64.wrap ((((pickE (ds.getD k default).at_ ((513 : Int) - (([(1 : Int), (2 : Int), (4 : Int), (8 : Int)] : List Int).getD (pickE (ds.getD k default).size (4 : Int)).toNat 0))) - (512 : Int)) + (512 : Int)) + ((kk : Nat) : Int))))] (by kernel_rfl) ?_
        have hw140 : IntKind.i64.wrap ((((pickE (ds.getD k default).at_ ((513 : Int) - (([(1 : Int), (2 : Int), (4 : Int), (8 : Int)] : List Int).getD (pickE (ds.getD k default).size (4 : Int)).toNat 0))) - (512 : Int)) + (512 : Int)) + ((kk : Nat) : Int)) = ((((pickE (ds.getD k default).at_ ((513 : Int) - (([(1 : Int), (2 : Int), (4 : Int), (8 : Int)] : List Int).getD (pickE (ds.getD k default).size (4 : Int)).toNat 0))) - (512 : Int)) + (512 : Int)) + ((kk : Nat) : Int)) := IntWalk.i64_in _ (by omega)
        refine WR.eqF (F' := [(0, .slice ad0 ds.length cap0), (4, .slice ad111 (setL us ((pickE (ds.getD k default).at_ ((513 : Int) - (([(1 : Int), (2 : Int), (4 : Int), (8 : Int)] : List Int).getD (pickE (ds.getD k default).size (4 : Int)).toNat 0))) - (512 : Int)) (([(1 : Int), (2 : Int), (4 : Int), (8 : Int)] : List Int).getD (pickE (ds.getD k default).size (4 : Int)).toNat 0)).length cap112), (5, .slice ad58 512 cap59), (6, .int .i64 ((k : Nat) : Int)), (7, .int .i64 (([(1 : Int), (2 : Int), (4 : Int), (8 : Int)] : List Int).getD (pickE (ds.getD k default).size (4 : Int)).toNat 0)), (8, .int .i64 ((pickE (ds.getD k default).at_ ((513 : Int) - (([(1 : Int), (2 : Int), (4 : Int), (8 : Int)] : List Int).getD (pickE (ds.getD k default).size (4 : Int)).toNat 0))) - (512 : Int))), (11, .int .i64 ((kk : Nat) : Int)), (58, .slice ad58 512 cap59), (62, .int .i64 ((((pickE (ds.getD k default).at_ ((513 : Int) - (([(1 : Int), (2 : Int), (4 : Int), (8 : Int)] : List Int).getD (pickE (ds.getD k default).size (4 : Int)).toNat 0))) - (512 : Int)) + (512 : Int)) + ((kk : Nat) : Int)))]) (by rw [hw140]) ?_
        refine WR.index (dst := some 63) (t := 22) (m := 512) (cap := cap59) (kk := .i64) (i := ((((pickE (ds.getD k default).at_ ((513 : Int) - (([(1 : Int), (2 : Int), (4 : Int), (8 : Int)] : List Int).getD (pickE (ds.getD k default).size (4 : Int)).toNat 0))) - (512 : Int)) + (512 : Int)) + ((kk : Nat) : Int))) hv133.rg (by kernel_rfl) 1 (by kernel_rfl) (by omega) (by omega) (mapNe _ _ ((((((pickE (ds.getD k default).at_ ((513 : Int) - (([(1 : Int), (2 : Int), (4 : Int), (8 : Int)] : List Int).getD (pickE (ds.getD k default).size (4 : Int)).toNat 0))) - (512 : Int)) + (512 : Int)) + ((kk : Nat) : Int))).toNat) (by rw [setTo_len]; omega)) (((((pickE (ds.getD k default).at_ ((513 : Int) - (([(1 : Int), (2 : Int), (4 : Int), (8 : Int)] : List Int).getD (pickE (ds.getD k default).size (4 : Int)).toNat 0))) - (512 : Int)) + (512 : Int)) + ((kk : Nat) : Int))).toNat (by omega) ?_
        refine WR.storeE (t := 4) (j := (((((pickE (ds.getD k default).at_ ((513 : Int) - (([(1 : Int), (2 : Int), (4 : Int), (8 : Int)] : List Int).getD (pickE (ds.getD k default).size (4 : Int)).toNat 0))) - (512 : Int)) + (512 : Int)) + ((kk : Nat) : Int))).toNat) (v := .bool true) hv133 (by kernel_rfl) (by kernel_rfl) rfl rfl (by omega) ?_
        intro w141 ho142 hc143
        have hz146 := hc143.size
        have hC145 := hC132.own hc143 (blks_ge hv133 (by omega))
        have ho147 := hv134.chg hc143 (hap124.symm.off)
        have ho144 := (boSet ho142)
        refine WR.fin (by kernel_rfl) ?_
        refine go hK138 ?_
        refine CW.region ?_
        refine WR.batch 2 [(0, .slice ad0 ds.length cap0), (4, .slice ad111 (setL us ((pickE (ds.getD k default).at_ ((513 : Int) - (([(1 : Int), (2 : Int), (4 : Int), (8 : Int)] : List Int).getD (pickE (ds.getD k default).size (4 : Int)).toNat 0))) - (512 : Int)) (([(1 : Int), (2 : Int), (4 : Int), (8 : Int)] : List Int).getD (pickE (ds.getD k default).size (4 : Int)).toNat 0)).length cap112), (5, .slice ad58 512 cap59), (6, .int .i64 ((k : Nat) : Int)), (7, .int .i64 (([(1 : Int), (2 : Int), (4 : Int), (8 : Int)] : List Int).getD (pickE (ds.getD k default).size (4 : Int)).toNat 0)), (8, .int .i64 ((pickE (ds.getD k default).at_ ((513 : Int) - (([(1 : Int), (2 : Int), (4 : Int), (8 : Int)] : List Int).getD (pickE (ds.getD k default).size (4 : Int)).toNat 0))) - (512 : Int))), (57, .int .i64 (IntKind.i64.wrap (((kk : Nat) : Int) + (1 : Int))))] (by kernel_rfl) ?_
        have hw148 : IntKind.i64.wrap (((kk : Nat) : Int) + (1 : Int)) = (((kk : Nat) : Int) + (1 : Int)) := IntWalk.i64_in _ (by omega)
        refine WR.eqF (F' := [(0, .slice ad0 ds.length cap0), (4, .slice ad111 (setL us ((pickE (ds.getD k default).at_ ((513 : Int) - (([(1 : Int), (2 : Int), (4 : Int), (8 : Int)] : List Int).getD (pickE (ds.getD k default).size (4 : Int)).toNat 0))) - (512 : Int)) (([(1 : Int), (2 : Int), (4 : Int), (8 : Int)] : List Int).getD (pickE (ds.getD k default).size (4 : Int)).toNat 0)).length cap112), (5, .slice ad58 512 cap59), (6, .int .i64 ((k : Nat) : Int)), (7, .int .i64 (([(1 : Int), (2 : Int), (4 : Int), (8 : Int)] : List Int).getD (pickE (ds.getD k default).size (4 : Int)).toNat 0)), (8, .int .i64 ((pickE (ds.getD k default).at_ ((513 : Int) - (([(1 : Int), (2 : Int), (4 : Int), (8 : Int)] : List Int).getD (pickE (ds.getD k default).size (4 : Int)).toNat 0))) - (512 : Int))), (57, .int .i64 (((kk : Nat) : Int) + (1 : Int)))]) (by rw [hw148]) ?_
        refine WR.batch 1 [(0, .slice ad0 ds.length cap0), (4, .slice ad111 (setL us ((pickE (ds.getD k default).at_ ((513 : Int) - (([(1 : Int), (2 : Int), (4 : Int), (8 : Int)] : List Int).getD (pickE (ds.getD k default).size (4 : Int)).toNat 0))) - (512 : Int)) (([(1 : Int), (2 : Int), (4 : Int), (8 : Int)] : List Int).getD (pickE (ds.getD k default).size (4 : Int)).toNat 0)).length cap112), (5, .slice ad58 512 cap59), (6, .int .i64 ((k : Nat) : Int)), (7, .int .i64 (([(1 : Int), (2 : Int), (4 : Int), (8 : Int)] : List Int).getD (pickE (ds.getD k default).size (4 : Int)).toNat 0)), (8, .int .i64 ((pickE (ds.getD k default).at_ ((513 : Int) - (([(1 : Int), (2 : Int), (4 : Int), (8 : Int)] : List Int).getD (pickE (ds.getD k default).size (4 : Int)).toNat 0))) - (512 : Int))), (11, .int .i64 (((kk : Nat) : Int) + (1 : Int)))] (by kernel_rfl) ?_
        refine WR.fin (by kernel_rfl) ?_
        exact fun _ ha => ⟨kk + 1, ⟨hC145, (by omega), (by rw [setTo, show (((pickE (ds.getD k default).at_ ((513 : Int) - (([(1 : Int), (2 : Int), (4 : Int), (8 : Int)] : List Int).getD (pickE (ds.getD k default).size (4 : Int)).toNat 0))) - (512 : Int)) + 512).toNat + kk = (((pickE (ds.getD k default).at_ ((513 : Int) - (([(1 : Int), (2 : Int), (4 : Int), (8 : Int)] : List Int).getD (pickE (ds.getD k default).size (4 : Int)).toNat 0))) - (512 : Int)) + (512 : Int) + ((kk : Nat) : Int)).toNat by omega]; exact ho144), ho147⟩, (by dsimp only; omega), ha.keep [0, 4, 5, 6, 7, 8, 11] (by kernel_rfl)⟩
      ·
        replace ht137 : ¬ (((kk : Nat) : Int) < (([(1 : Int), (2 : Int), (4 : Int), (8 : Int)] : List Int).getD (pickE (ds.getD k default).size (4 : Int)).toNat 0)) := (of_decide_eq_false ht137)
        refine CW.exit ?_
        refine go hK72 ?_
        refine CW.region ?_
        refine WR.batch 2 [(0, .slice ad0 ds.length cap0), (4, .slice ad111 (setL us ((pickE (ds.getD k default).at_ ((513 : Int) - (([(1 : Int), (2 : Int), (4 : Int), (8 : Int)] : List Int).getD (pickE (ds.getD k default).size (4 : Int)).toNat 0))) - (512 : Int)) (([(1 : Int), (2 : Int), (4 : Int), (8 : Int)] : List Int).getD (pickE (ds.getD k default).size (4 : Int)).toNat 0)).length cap112), (5, .slice ad58 512 cap59), (23, .int .i64 (IntKind.i64.wrap (((k : Nat) : Int) + (1 : Int))))] (by kernel_rfl) ?_
        have hw149 : IntKind.i64.wrap (((k : Nat) : Int) + (1 : Int)) = (((k : Nat) : Int) + (1 : Int)) := IntWalk.i64_in _ (by omega)
        refine WR.eqF (F' := [(0, .slice ad0 ds.length cap0), (4, .slice ad111 (setL us ((pickE (ds.getD k default).at_ ((513 : Int) - (([(1 : Int), (2 : Int), (4 : Int), (8 : Int)] : List Int).getD (pickE (ds.getD k default).size (4 : Int)).toNat 0))) - (512 : Int)) (([(1 : Int), (2 : Int), (4 : Int), (8 : Int)] : List Int).getD (pickE (ds.getD k default).size (4 : Int)).toNat 0)).length cap112), (5, .slice ad58 512 cap59), (23, .int .i64 (((k : Nat) : Int) + (1 : Int)))]) (by rw [hw149]) ?_
        refine WR.batch 1 [(0, .slice ad0 ds.length cap0), (4, .slice ad111 (setL us ((pickE (ds.getD k default).at_ ((513 : Int) - (([(1 : Int), (2 : Int), (4 : Int), (8 : Int)] : List Int).getD (pickE (ds.getD k default).size (4 : Int)).toNat 0))) - (512 : Int)) (([(1 : Int), (2 : Int), (4 : Int), (8 : Int)] : List Int).getD (pickE (ds.getD k default).size (4 : Int)).toNat 0)).length cap112), (5, .slice ad58 512 cap59), (6, .int .i64 (((k : Nat) : Int) + (1 : Int)))] (by kernel_rfl) ?_
        refine WR.fin (by kernel_rfl) ?_
        exact fun _ ha => ⟨⟨k + 1, ad111, cap112, e114, setL us ((pickE (ds.getD k default).at_ ((513 : Int) - (([(1 : Int), (2 : Int), (4 : Int), (8 : Int)] : List Int).getD (pickE (ds.getD k default).size (4 : Int)).toNat 0))) - (512 : Int)) (([(1 : Int), (2 : Int), (4 : Int), (8 : Int)] : List Int).getD (pickE (ds.getD k default).size (4 : Int)).toNat 0)⟩, ⟨hC132, (by omega), (by omega), hv134.weak (by omega), hap124.symm, (by rw [rowTo_succ (by omega), ← has]; rfl), (show Own _ _ _ _ _ _ _ (bo (setL us (rowAt (ds.getD k default)) (rowSz (ds.getD k default)))) from by rw [setL_ok (by rw [hasl]; exact rowPlace _), show (rowSz (ds.getD k default)).toNat = kk from by unfold rowSz; omega]; exact hv133)⟩, (by dsimp only; omega), ha.keep [0, 4, 5, 6] (by kernel_rfl)⟩
    ·
      replace ht71 : (¬ (((k : Nat) : Int) < ((ds.length : Nat) : Int))) ∨ (¬ (((k : Nat) : Int) < (60 : Int))) := (orMap (bAndF ht71) (fun h => (of_decide_eq_false h)) (fun h => (of_decide_eq_false h)))
      refine CW.exit ?_
      refine go hK64 ?_
      refine CW.seq fun K150 hK150 => ?_
      refine CW.region ?_
      refine WR.batch 4 [(2, .slice ad us.length cap), (3, .slice ad58 512 cap59)] (by kernel_rfl) ?_
      refine WR.fin (by kernel_rfl) ?_
      refine go hK150 ?_
      refine CW.ret ?_
      exact retV (.tuple #[.slice ad us.length cap, .slice ad58 512 cap59]) (by kernel_rfl) ⟨hC67, ⟨ad, cap, _, ad58, cap59, _, by rw [show rowL ds = us from by rw [has, rowL, show min ds.length 60 = k by omega]], by rw [show rowL ds = us from by rw [has, rowL, show min ds.length 60 = k by omega]]; exact hoa.weak (by omega), by rw [show rowL ds = us from by rw [has, rowL, show min ds.length 60 = k by omega]]; exact hv68.weak (by omega)⟩⟩
end Go.V
