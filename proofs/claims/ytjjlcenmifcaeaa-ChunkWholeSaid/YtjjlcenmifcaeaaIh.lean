/- What is proved by hand: missing pieces, joined pieces, the keys of a map. -/
import Derived.Test.YtjjlcenmifcaeaaTb
import Derived.Test.YtjjlcenmifcaeaaXQ
import Derived.Test.YtjjlcenmifcaeaaSh
namespace Go.X
open Go.RowKit Go.V Go.Proofs
/-! ### Pieces that are missing -/
def missing (ps : List (List Int)) (n : Int) : Bool := (ps.take n.toNat).any List.isEmpty
def missAt (ps : List (List Int)) (n : Int) : Int := (((ps.take n.toNat).findIdx List.isEmpty : Nat) : Int)
def missOk (n : Int) : Bool := decide (0 ≤ n) && decide (n ≤ 40)
def itMiss : It1 TT := ⟨[.ptr 0 46 [.ptr 0 49 [.arr (.nl (.int .u8)) 40, .val (.int .i64)]]], fun x => missOk x.1.1.2.1, fun x => missing x.1.1.1 x.1.1.2.1, fun x => [⟨.int .i64, missAt x.1.1.1 x.1.1.2.1⟩]⟩
theorem missing_at {ps : List (List Int)} {m k : Nat} (hk : k < m) (hl : m ≤ ps.length) (h : ∀ i, i < k → ps.getD i [] ≠ []) (he : ps.getD k [] = []) : missing ps (m : Int) = true ∧ missAt ps (m : Int) = (k : Int) := by
  have hlt : k < (ps.take (m : Int).toNat).length := by simp; omega
  have hg : ∀ i, i < m → (ps.take (m : Int).toNat)[i]? = some (ps.getD i []) := fun i hi => by
    rw [List.getElem?_take, if_pos (by simpa using hi), List.getD_eq_getElem?_getD, List.getElem?_eq_getElem (by omega)]; rfl
  constructor
  · unfold missing
    rw [List.any_eq_true]
    exact ⟨[], List.mem_of_getElem? ((hg k hk).trans (by rw [he])), rfl⟩
  · unfold missAt
    congr 1
    rw [List.findIdx_eq hlt]
    have ge : ∀ i (hi : i < (ps.take (m : Int).toNat).length), i < m → (ps.take (m : Int).toNat)[i] = ps.getD i [] := fun i hi him => by
      have := hg i him; rw [List.getElem?_eq_getElem hi] at this; exact Option.some.inj this
    refine ⟨by rw [ge k hlt hk, he]; rfl, fun j hj => ?_⟩
    rw [ge j (by omega) (by omega)]
    have := h j hj
    cases hq : ps.getD j [] with
    | nil => exact absurd hq this
    | cons _ _ => rfl
theorem missing_no {ps : List (List Int)} {m : Nat} (hl : m ≤ ps.length) (h : ∀ i, i < m → ps.getD i [] ≠ []) : missing ps (m : Int) = false := by
  unfold missing
  rw [List.any_eq_false]
  intro l hm
  obtain ⟨i, hi⟩ := List.mem_iff_getElem?.1 hm
  rw [List.getElem?_take] at hi
  split at hi
  · rename_i him
    have him : i < m := by simpa using him
    have := h i him
    rw [List.getD_eq_getElem?_getD, hi] at this
    cases l with
    | nil => exact absurd rfl this
    | cons _ _ => simp
  · cases hi
theorem miss_run (g0 g l : Nat) (ps : List (List Int)) (m : Nat) (c : Array Value) (J : World → Prop) (w : World) (hm : m ≤ 40) (hb0 : Blk w g0 #[.pointer (some ⟨g, 0, none⟩)] 46) (hb : Blk w g c 49) (hlen : ps.length = 40) (hc40 : c[40]? = some (.int .i64 (m : Int)))
    (hc : ∀ (j : Nat) (l : List Int), ps[j]? = some l → ∃ (ad : Option Addr) (cap : Nat), c[j]? = some (Value.slice ad l.length cap) ∧ (l = [] → ad = none ∧ cap = 0) ∧ (ad = none → l = []))
    (hround : missing ps (m : Int) = true → ∀ W, Chg [] w W → YieldW Try.prog l #[.int .i64 (missAt ps (m : Int))] W fun e W' => e = .returned (.bool false) ∧ J W') :
    Calls Try.prog 26 #[.func (.yield l) #[] #[], .pointer (some ⟨g0, 0, none⟩)] w fun e W' => (∃ v, e = .returned v) ∧ (missing ps (m : Int) = true → J W') ∧ (missing ps (m : Int) = false → Chg [] w W') := by
  have key : CWI Try.prog (bodyOf Try.f26) (bodyPostM Fence.wide 0 Try.prog Try.f26 fun e W' => (∃ v, e = .returned v) ∧ (missing ps (m : Int) = true → J W') ∧ (missing ps (m : Int) = false → Chg [] w W')) 28 [(0, .func (.yield l) #[] #[]), (1, .pointer (some ⟨g0, 0, none⟩))] w := by
    refine CWI.seq (CWI.regionQ (by kernel_rfl) (by kernel_rfl) ?_)
    refine WQ.load1' (dst := some 5) (t := 46) (a := ⟨g0, 0, none⟩) (by kernel_rfl) (by kernel_rfl) (.pointer (some ⟨g, 0, none⟩)) (by unfold World.cell?; have hb0 : w.heap[g0]? = _ := hb0; simp [hb0]) ?_
    refine WQ.val (dst := some 6) (.pointer (some ⟨g, 0, none⟩)) (fun w => by kernel_rfl) ?_
    refine WQ.val (dst := some 7) (.pointer (some ⟨g, 0, none⟩)) (fun w => by kernel_rfl) ?_
    refine WQ.load1' (dst := some 8) (t := 46) (a := ⟨g0, 0, none⟩) (by kernel_rfl) (by kernel_rfl) (.pointer (some ⟨g, 0, none⟩)) (by unfold World.cell?; have hb0 : w.heap[g0]? = _ := hb0; simp [hb0]) ?_
    refine WQ.val (dst := some 9) (.pointer (some ⟨g, 0, none⟩)) (fun w => by kernel_rfl) ?_
    refine WQ.val (dst := some 10) (.pointer (some ⟨g, 40, none⟩)) (fun w => by kernel_rfl) ?_
    refine WQ.load1' (dst := some 11) (t := 3) (a := ⟨g, 40, none⟩) (by kernel_rfl) (by kernel_rfl) (.int .i64 (m : Int)) (by unfold World.cell?; have hb : w.heap[g]? = _ := hb; simp [hb, hc40]) ?_
    refine WQ.sliceP (dst := some 12) (t := 47) (b := g) (o1 := 0) (n0 := 40) (sz := 1) (kh := .i64) (m := (m : Int)) (by kernel_rfl) (by kernel_rfl) (by omega) (by omega) (by decide) ?_
    refine WQ.val (dst := some 13) (.int .i64 (m : Int)) (fun w => by kernel_rfl) ?_
    refine WQ.val (dst := some 14) (.int .i64 0) (fun w => by kernel_rfl) ?_
    refine WQ.keep [0, 12, 13, 14] (F' := [(0, .func (.yield l) #[] #[]), (12, .slice (some ⟨g, 0, none⟩) m 40), (13, .int .i64 (m : Int)), (14, .int .i64 0)]) (by kernel_rfl) ?_
    refine WQ.fin (w := w) (by kernel_rfl) fun W0 hW0 a ha => ⟨_, ha, ?_⟩
    refine CWI.block fun a ha => wpIn_loop (fun a W => ∃ k : Nat, k ≤ m ∧ (∀ i, i < k → ps.getD i [] ≠ []) ∧ Chg [] w W ∧ Fr 28 [] [(0, .func (.yield l) #[] #[]), (12, .slice (some ⟨g, 0, none⟩) m 40), (13, .int .i64 (m : Int)), (14, .int .i64 (k : Int))] a) (fun a _ => match a.tmps.getD 14 undef with | .int _ x => ((m : Int) - x).toNat | _ => 0) ⟨0, Nat.zero_le _, by intro i hi; omega, hW0, ha⟩ ?_
    rintro a W ⟨k, hk, hall, hcW, hf⟩
    have hμ : (match a.tmps.getD 14 undef with | .int _ x => ((m : Int) - x).toNat | _ => 0) = ((m : Int) - (k : Int)).toNat := by rw [(hf.val 14 (.int .i64 (k : Int)) rfl).1]
    rw [hμ]
    refine CWI.seq (F := [(0, .func (.yield l) #[] #[]), (12, .slice (some ⟨g, 0, none⟩) m 40), (13, .int .i64 (m : Int)), (14, .int .i64 (k : Int))]) (CWI.region ?_) a hf
    refine WRI.batch 1 [(0, .func (.yield l) #[] #[]), (12, .slice (some ⟨g, 0, none⟩) m 40), (13, .int .i64 (m : Int)), (14, .int .i64 (k : Int)), (15, .bool (decide ((k : Int) < (m : Int))))] (by kernel_rfl) ?_
    refine WRI.fin (by kernel_rfl) fun a ha => ⟨_, ha, ?_⟩
    refine CWI.seq (CWI.cond (decide ((k : Int) < (m : Int))) (by kernel_rfl) (fun ht => CWI.skip fun a ha => ⟨_, ha, ?_⟩) fun hf => CWI.exit fun a ha => ?_)
    · have hlt : k < m := by have := of_decide_eq_true ht; omega
      have hbW : Blk W g c 49 := hb.pure hcW
      obtain ⟨ad, cap, hcell, hnil, hsome⟩ := hc k (ps.getD k []) (by rw [List.getD_eq_getElem?_getD, List.getElem?_eq_getElem (by omega)]; rfl)
      refine CWI.seq (CWI.block (CWI.seq (CWI.region ?_)))
      refine WRI.batch 1 [(0, .func (.yield l) #[] #[]), (12, .slice (some ⟨g, 0, none⟩) m 40), (13, .int .i64 (m : Int)), (14, .int .i64 (k : Int)), (16, .int .i64 (k : Int))] (by kernel_rfl) ?_
      refine WRI.index (dst := some 17) (t := 38) (b := g) (o := 0) (m := m) (cap := 40) (kk := .i64) (i := (k : Int)) (by kernel_rfl) 1 (by kernel_rfl) (by omega) (by omega) ?_
      refine WRI.load1 (dst := some 18) (t := 22) (a := ⟨g, 0 + (k : Int).toNat * 1, none⟩) (by kernel_rfl) (by kernel_rfl) (.slice ad (ps.getD k []).length cap) (by unfold World.cell?; have hbW : W.heap[g]? = _ := hbW; simp [hbW, hcell]) ?_
      refine WRI.batch 2 [(0, .func (.yield l) #[] #[]), (12, .slice (some ⟨g, 0, none⟩) m 40), (13, .int .i64 (m : Int)), (14, .int .i64 (k : Int)), (3, .int .i64 (k : Int)), (4, .slice ad (ps.getD k []).length cap)] (by kernel_rfl) ?_
      refine WRI.fin (by kernel_rfl) fun a ha => ⟨_, ha, ?_⟩
      have hiw : IntKind.i64.wrap ((k : Int) + 1) = ((k + 1 : Nat) : Int) := by
        show IntKind.wrap _ _ = _
        unfold IntKind.wrap
        simp [IntKind.signed, IntKind.bits]
        omega
      cases had : ad with
      | none =>
        have he := hsome had
        have hmk := missing_at hlt (by omega) hall he
        subst had
        obtain ⟨_, rfl⟩ := hnil he
        rw [he]
        refine CWI.seq (CWI.region ?_)
        refine WRI.batch 5 [(0, .func (.yield l) #[] #[]), (22, .func (.yield l) #[] #[]), (23, .int .i64 (k : Int)), (21, .bool true)] (by kernel_rfl) ?_
        refine WRI.yield (dst := some 24) (l := l) (us := [.int .i64 (k : Int)]) (by kernel_rfl) (hmk.2 ▸ hround hmk.1 W hcW) (fun e w' h => ⟨_, h.1⟩) ?_
        rintro v W' ⟨hv, hJ'⟩
        cases hv
        refine WRI.batch 2 [(26, .bool true)] (by kernel_rfl) ?_
        refine WRI.fin (by kernel_rfl) fun a ha => ⟨_, ha, ?_⟩
        refine CWI.cond true (by kernel_rfl) (fun _ => CWI.ret fun a ha => ?_) fun h => (by cases h)
        show LeavesInM Fence.wide 0 Try.prog Try.f26 a.tmps _ a.defers .returning W'
        rw [ha.defers]
        exact ⟨.tuple #[], by kernel_rfl, ⟨_, rfl⟩, fun _ => hJ', fun h => by rw [hmk.1] at h; cases h⟩
      | some a0 =>
        subst had
        have hne : ps.getD k [] ≠ [] := fun he => by have := (hnil he).1; cases this
        generalize (ps.getD k []).length = len at *
        refine CWI.seq (CWI.region ?_)
        refine WRI.batch 8 [(0, .func (.yield l) #[] #[]), (12, .slice (some ⟨g, 0, none⟩) m 40), (13, .int .i64 (m : Int)), (14, .int .i64 (k : Int)), (26, .bool false)] (by kernel_rfl) ?_
        refine WRI.fin (by kernel_rfl) fun a ha => ⟨_, ha, ?_⟩
        refine CWI.cond false (by kernel_rfl) (fun h => (by cases h)) fun _ => CWI.skip fun a ha => ⟨_, ha, ?_⟩
        refine CWI.region (WRI.batch 2 [(0, .func (.yield l) #[] #[]), (12, .slice (some ⟨g, 0, none⟩) m 40), (13, .int .i64 (m : Int)), (14, .int .i64 (IntKind.i64.wrap ((k : Int) + 1)))] (by kernel_rfl) ?_)
        rw [hiw]
        refine WRI.fin (by kernel_rfl) fun a ha => ⟨⟨k + 1, by omega, fun i hi => ?_, hcW, ha⟩, ?_⟩
        · rcases Nat.lt_succ_iff_lt_or_eq.1 hi with h | h
          · exact hall i h
          · subst h; exact hne
        rw [(ha.val 14 (.int .i64 ((k + 1 : Nat) : Int)) rfl).1]
        show ((m : Int) - ((k + 1 : Nat) : Int)).toNat < ((m : Int) - (k : Int)).toNat
        omega
    · have hge : ¬ (k : Int) < (m : Int) := of_decide_eq_false hf
      have hk' : k = m := by omega
      subst hk'
      have hno := missing_no (ps := ps) (m := k) (by omega) hall
      show Exit.inBlock 0 (bodyPostM Fence.wide 0 Try.prog Try.f26 fun e W' => (∃ v, e = .returned v) ∧ (missing ps (k : Int) = true → J W') ∧ (missing ps (k : Int) = false → Chg [] w W')) (.exit 0) a W
      refine inBlock_exit ?_
      show LeavesInM Fence.wide 0 Try.prog Try.f26 a.tmps _ a.defers .returning W
      rw [ha.defers]
      exact ⟨.tuple #[], by kernel_rfl, ⟨_, rfl⟩, fun h => (by rw [hno] at h; cases h), fun _ => hcW⟩
  exact calls_of_CWI Try.func26 (show Try.f26.body = some (bodyOf Try.f26) by kernel_rfl) Try.ntmps26 (by kernel_rfl) [0, 1] (by kernel_rfl) key
theorem miss_it : It1Ok TT Try.prog 26 itMiss := by
  intro x hpre w S φ vb hsim hvb
  obtain ⟨ps, n, hx⟩ : ∃ (ps : List (List Int)) (n : Int), x = (((ps, n, ()), ()), ()) := ⟨x.1.1.1, x.1.1.2.1, rfl⟩
  subst hx
  have hpre : missOk n = true := hpre
  unfold missOk at hpre
  rw [Bool.and_eq_true, decide_eq_true_eq, decide_eq_true_eq] at hpre
  obtain ⟨m, rfl⟩ : ∃ m : Nat, n = (m : Int) := ⟨n.toNat, by omega⟩
  obtain ⟨g0, c0, a1, a2, a3, a4⟩ := hsim.ents 0 _ rfl
  obtain ⟨g, c, b1, b2, b3, b4⟩ := hsim.ents 1 _ rfl
  have a5 := a4.vrl TT (by rfl)
  obtain ⟨q1, q2, q3⟩ := nlCells (T := TT) b4
  match vb, hvb with
  | [v], hvb =>
  obtain ⟨g', e1, rfl⟩ := hvb.1
  have e1 : (φ 0).ad = _ := e1
  rw [a1] at e1; simp only [Option.some.injEq, Addr.mk.injEq, and_true] at e1; subst e1
  have hc0 : c0 = #[.pointer (some ⟨g, 0, none⟩)] := by
    match hl : c0.toList, a5 with
    | [u], a5 =>
      obtain ⟨g', e1, rfl⟩ := a5.1
      have e1 : (φ 1).ad = _ := e1
      rw [b1] at e1; simp only [Option.some.injEq, Addr.mk.injEq, and_true] at e1; subst e1
      exact Array.toList_inj.1 hl
  subst hc0
  refine ⟨[.int .i64 (missAt ps (m : Int))], fun _ => ⟨rfl, fun j cc v h1 h2 => ?_⟩, fun l J hJ => ?_⟩
  · cases j with
    | zero =>
      simp only [itMiss, List.getElem?_cons_zero, Option.some.injEq] at h1 h2
      subst h1; subst h2
      exact CR.int _ _
    | succ j => simp [itMiss] at h1
  · exact miss_run g0 g l ps m c J w (by omega) a2 b2 q1 (by simpa using q2) (fun (j : Nat) (l : List Int) hj => by obtain ⟨ad, cap, k1, k2, k3, _⟩ := q3 j l hj; have k1 : c.toList[j]? = some (Value.slice ad (List.length (α := Int) l) cap) := k1; exact ⟨ad, cap, by simpa using k1, k2, k3⟩) hJ
/-! ### The keys of a map, sorted -/
noncomputable def sorted_sp : GSpec TT := ⟨[.fn 30 [] [.ptr 0 24 [.pm .i64 49 0]]], [.blk 24 [.mpo 1], .pm .i64 49 0], [.row 3 (.int .i64)], fun x => sortedKeys x.1.2.1.1⟩
theorem sorted_ok : GOk TT Try.prog 23 sorted_sp := gOk_sortedP Try.sorted0Call (by kernel_rfl)
/-! ### Pieces, joined -/
def u8s (l : List Int) : List UInt8 := l.map fun x => UInt8.ofNat x.toNat
def byteOk (l : List Int) : Bool := l.all fun x => decide (0 ≤ x) && decide (x ≤ 255)
def joinOk (ls : List (List Int)) : Bool := !ls.isEmpty && (ls.all (fun l => !l.isEmpty && byteOk l) && Nat.ble ls.flatten.length 1099511627776)
def joinG (ps : List (List Int)) (n : Int) (lo m : Nat) : Option (((List (List Int) × Int × Unit) × Unit) × (List Int × Unit)) := match joinOk ((ps.drop lo).take m) with | true => some (((ps, n, ()), ()), (((ps.drop lo).take m).flatten, ())) | false => none
noncomputable def join_sp : GSpec TT := ⟨[.asn 49 [.arr (.nl (.int .u8)) 40, .val (.int .i64)] 0 1 40, .nils], [.blk 49 [.arr (.nl (.int .u8)) 40, .val (.int .i64)]], [.val (.list (.int .u8))], fun x => joinG x.1.1.1 x.1.1.2.1 x.1.2.1 x.1.2.2⟩
theorem u8_int {x : Int} (h : 0 ≤ x ∧ x ≤ 255) : ((UInt8.ofNat x.toNat).toNat : Int) = x := by
  rw [UInt8.toNat_ofNat']; omega
theorem byteOk_at {l : List Int} (h : byteOk l = true) {i : Nat} {x : Int} (hx : l[i]? = some x) : 0 ≤ x ∧ x ≤ 255 := by
  have := List.all_eq_true.1 h x (List.mem_of_getElem? hx)
  simpa using this
/-- a list of bytes, as the kit tells it. -/
theorem CR.holds {w : World} {S : List Nat} {l : List Int} {v : Value} (h : CR TT w S (.list (.int .u8)) l v) (hb : byteOk l = true) : Lib.HoldsBytes w v (u8s l) := by
  cases h with
  | list _ _ ad cap u hcap hnil had hcell hrel =>
    have hul : (u8s l).length = List.length (α := Int) l := by simp [u8s]
    refine ⟨ad, cap, congrArg (fun n => Value.slice ad n cap) hul.symm, fun ha => by have h0 : List.length (α := Int) l = 0 := (hnil ha).1; rw [List.length_eq_zero_iff.1 h0]; rfl, fun a ha i x hx => ?_⟩
    have hx : (l.map fun x => UInt8.ofNat x.toNat)[i]? = some x := hx
    rw [List.getElem?_map] at hx
    cases hi : l[i]? with
    | none => rw [hi] at hx; cases hx
    | some y =>
      rw [hi] at hx; simp only [Option.map_some, Option.some.injEq] at hx; subst hx
      have hne : l ≠ [] := fun e => by subst e; simp at hi
      have hc : (l[i]?.map fun x => (flat TT (.int .u8) x)[0]?) = some (some (⟨.int .u8, y⟩ : Cell TT.U)) := by rw [hi]; rfl
      have h1 := hcell i 0 _ hc
      have h2 := hrel i 0 _ hc
      have h2 : CR TT w S (.int .u8) y (u i 0) := h2
      obtain ⟨g1, g2, _⟩ := had hne
      rw [ha] at g1; simp only [Option.some.injEq] at g1
      rw [u8_int (byteOk_at hb hi)]
      generalize u i 0 = z at h1 h2
      cases h2
      have h1 : w.cell? ⟨bk ad, of ad + (i * 1 + 0), none⟩ = some (.int .u8 y) := h1
      rw [Nat.mul_one, Nat.add_zero] at h1
      obtain ⟨b0, o0, rfl⟩ : ∃ b0 o0, a = ⟨b0, o0, none⟩ := ⟨_, _, g1⟩
      subst ha
      rw [add_plain]; exact h1
/-- fresh bytes, as a list that does not change. -/
theorem CR.fresh {w w' : World} {S : List Nat} {l : List Int} {v : Value} (h : Lib.FreshBytes w.heap.size w' v (u8s l)) (hb : byteOk l = true) (hne : l ≠ []) (hS : ∀ b ∈ S, b < w.heap.size) : CR TT w' S (.list (.int .u8)) l v := by
  obtain ⟨g, cap, zs, rfl, h1, h2, h3, h4, h5, h6, h7, h8⟩ := h
  have hlen : (u8s l).length = l.length := by simp [u8s]
  rw [hlen] at h2 h6 ⊢
  have hz : ∀ i, i < l.length → zs.getD i 0 = l.getD i 0 := fun i hi => by
    have e := congrArg (fun q : List UInt8 => q[i]?) h6
    have hzi : i < zs.length := by omega
    have e1 : (Lib.bytesOf (zs.take l.length))[i]? = some (UInt8.ofNat (zs.getD i 0).toNat) := by
      unfold Lib.bytesOf
      rw [List.getElem?_map, List.getElem?_take, if_pos hi, List.getElem?_eq_getElem hzi, List.getD_eq_getElem?_getD, List.getElem?_eq_getElem hzi]; rfl
    have e2 : (u8s l)[i]? = some (UInt8.ofNat (l.getD i 0).toNat) := by
      unfold u8s
      rw [List.getElem?_map, List.getElem?_eq_getElem hi, List.getD_eq_getElem?_getD, List.getElem?_eq_getElem hi]; rfl
    simp only [e1, e2, Option.some.injEq] at e
    have k1 : 0 ≤ zs.getD i 0 ∧ zs.getD i 0 ≤ 255 := by
      have := h5 (zs.getD i 0) (by rw [List.getD_eq_getElem?_getD, List.getElem?_eq_getElem hzi]; exact List.getElem_mem hzi)
      omega
    have k2 : 0 ≤ l.getD i 0 ∧ l.getD i 0 ≤ 255 := byteOk_at (i := i) hb (by rw [List.getD_eq_getElem?_getD, List.getElem?_eq_getElem hi]; rfl)
    have := congrArg (fun b : UInt8 => (b.toNat : Int)) e
    simp only [u8_int k1, u8_int k2] at this
    exact this
  refine .list (.int .u8) l (some ⟨g, 0, none⟩) cap (fun k _ => .int .u8 (l.getD k 0)) h2 (fun e => by cases e) (fun _ => ⟨rfl, ?_, fun hm => ?_⟩) (fun k j c hk => ?_) (fun k j c hk => ?_)
  · have : 0 < l.length := List.length_pos_iff.2 hne
    exact World.block_lt_of_cell? w' _ (h7 0 (by omega))
  · have hm : g ∈ S := hm
    have := hS g hm; omega
  · have hk : Option.map (fun x : Int => (flat TT (.int .u8) x)[j]?) (l[k]? : Option Int) = some (some c) := hk
    cases hi : l[k]? with
    | none => rw [hi] at hk; cases hk
    | some y =>
      rw [hi] at hk
      have hkl := (List.getElem?_eq_some_iff.1 hi).1
      have hj : j = 0 := by
        cases j with
        | zero => rfl
        | succ j => simp [flat] at hk
      subst hj
      have := h7 k (by omega)
      rw [hz k hkl] at this
      show w'.cell? ⟨g, 0 + (k * 1 + 0), none⟩ = _
      rw [Nat.mul_one, Nat.add_zero, Nat.zero_add]; exact this
  · have hk : Option.map (fun x : Int => (flat TT (.int .u8) x)[j]?) (l[k]? : Option Int) = some (some c) := hk
    cases hi : l[k]? with
    | none => rw [hi] at hk; cases hk
    | some y =>
      rw [hi] at hk
      have hj : j = 0 := by
        cases j with
        | zero => rfl
        | succ j => simp [flat] at hk
      subst hj
      have hk : some (some (⟨.int .u8, y⟩ : Cell TT.U)) = some (some c) := hk
      simp only [Option.some.injEq] at hk; subst hk
      have : l.getD k 0 = y := by rw [List.getD_eq_getElem?_getD, hi]; rfl
      rw [this]; exact CR.int _ _
theorem join_u8 (ls : List (List Int)) : Lib.join (ls.map u8s) [] = u8s ls.flatten := by
  have key : ∀ ls : List (List UInt8), Lib.join ls [] = ls.flatten := by
    intro ls
    induction ls with
    | nil => rfl
    | cons a r ih =>
      cases r with
      | nil => simp [Lib.join, List.intercalate]
      | cons b r =>
        have ih : ([].intercalate (b :: r) : List UInt8) = (b :: r).flatten := ih
        show ([].intercalate (a :: b :: r) : List UInt8) = _
        rw [List.flatten_cons, ← ih]
        simp [List.intercalate, List.intersperse]
  rw [key]
  simp [u8s, List.map_flatten]
  rfl
theorem lens_u8 (ls : List (List Int)) : Lib.lens (ls.map u8s) = ls.flatten.length := by
  unfold Lib.lens
  rw [List.length_flatten, List.map_map]
  congr 1
  exact List.map_congr_left fun l _ => by simp [u8s]
theorem flat_bytes {ls : List (List Int)} (h : ∀ l ∈ ls, byteOk l = true) : byteOk ls.flatten = true := by
  unfold byteOk
  rw [List.all_eq_true]
  intro x hx
  obtain ⟨l, h1, h2⟩ := List.mem_flatten.1 hx
  exact List.all_eq_true.1 (h l h1) x h2
theorem join_ok : GOk TT Try.prog 22 join_sp := by
  intro x y hy w S φ hsim vs hvs _
  obtain ⟨ps, n, lo, m, hx⟩ : ∃ (ps : List (List Int)) (n : Int) (lo m : Nat), x = (((ps, n, ()), lo, m), (), ()) := ⟨x.1.1.1, x.1.1.2.1, x.1.2.1, x.1.2.2, rfl⟩
  subst hx
  have hy : joinG ps n lo m = some y := hy
  unfold joinG at hy
  split at hy <;> try (cases hy; done)
  rename_i hok
  have hy := Option.some.inj hy
  subst hy
  have hlsl : ((ps.drop lo).take m).length = min m (ps.length - lo) := by simp
  have hget : ∀ k, k < m → ((ps.drop lo).take m)[k]? = ps[lo + k]? := fun k hk => by rw [List.getElem?_take, if_pos hk, List.getElem?_drop]
  generalize hls : (ps.drop lo).take m = ls at hok hlsl hget
  unfold joinOk at hok
  simp only [Bool.and_eq_true, Bool.not_eq_true'] at hok
  obtain ⟨h2, h3, h5⟩ := hok
  have h5 := Nat.le_of_ble_eq_true h5
  have hlne : ls ≠ [] := fun e => by subst e; cases h2
  have hpc : ∀ l ∈ ls, l ≠ [] ∧ byteOk l = true := fun l hl => by
    have := List.all_eq_true.1 h3 l hl
    rw [Bool.and_eq_true, Bool.not_eq_true'] at this
    exact ⟨fun e => (by subst e; cases this.1), this.2⟩
  have hfb := flat_bytes fun l hl => (hpc l hl).2
  have hfne : ls.flatten ≠ [] := by
    obtain ⟨a, r, rfl⟩ : ∃ a r, ls = a :: r := by cases ls with | nil => exact absurd rfl hlne | cons a r => exact ⟨a, r, rfl⟩
    intro e
    rw [List.flatten_cons, List.append_eq_nil_iff] at e
    exact (hpc a (by simp)).1 e.1
  obtain ⟨g, c, b1, b2, b3, b4⟩ := hsim.ents 0 _ rfl
  obtain ⟨q1, q2, q3⟩ := nlCells (T := TT) b4
  have q1 : ps.length = 40 := q1
  match vs, hvs with
  | [v1, v2], hvs =>
  obtain ⟨g', ad, e1, rfl, e2, e3⟩ := hvs.1
  have e1 : (φ 0).ad = _ := e1
  have e2 : lo + m ≤ 40 := e2
  have e3 : lo = 40 ∨ ad = ⟨g', 0 + lo * 1, none⟩ := e3
  rw [b1] at e1; simp only [Option.some.injEq, Addr.mk.injEq, and_true] at e1; subst e1
  have hv2 : v2 = .slice none 0 0 := hvs.2.1
  subst hv2
  have hpos : 0 < ls.length := List.length_pos_iff.2 hlne
  have had : ad = ⟨g, lo, none⟩ := by
    rcases e3 with e3 | e3
    · omega
    · rw [e3]; simp
  subst had
  have hlm : ls.length = m := by omega
  have hcell : ∀ k, k < m → ∃ (p : Option Addr) (cap : Nat) (l : List Int), ls[k]? = some l ∧ w.cell? ⟨g, lo + k, none⟩ = some (.slice p l.length cap) ∧ CR TT w S (.list (.int .u8)) l (.slice p l.length cap) := fun k hk => by
    obtain ⟨l, hl⟩ : ∃ l, ps[lo + k]? = some l := ⟨ps[lo + k]'(by omega), List.getElem?_eq_getElem _⟩
    obtain ⟨p, cap, k1, _, _, k4⟩ := q3 _ l hl
    refine ⟨p, cap, l, by rw [hget k hk]; exact hl, ?_, k4⟩
    unfold World.cell?
    have b2 : w.heap[g]? = _ := b2
    have k1 : c.toList[lo + k]? = some (Value.slice p (List.length (α := Int) l) cap) := k1
    have k1 : c[lo + k]? = some (Value.slice p l.length cap) := by simpa using k1
    simp [b2, k1]
  have hbytes : ∀ {k : Nat} {l : List Int}, ls[k]? = some l → l ≠ [] ∧ byteOk l = true := fun {k l} hl => hpc l (List.mem_of_getElem? hl)
  have fin : Calls Try.prog 22 #[.slice (some ⟨g, lo, none⟩) m (40 - lo), .slice none 0 0] w fun e w' => ∃ v', e = .returned v' ∧ Lib.FreshBytes w.heap.size w' v' (u8s ls.flatten) ∧ Below w.heap.size w w' := by
    by_cases hm1 : m = 1
    · obtain ⟨p, cap, l, k1, k2, k3⟩ := hcell 0 (by omega)
      obtain ⟨n1, n2⟩ := hbytes k1
      obtain ⟨p', cap', f1, f2, f3⟩ := k3.holds n2
      simp only [Value.slice.injEq] at f1
      obtain ⟨rfl, _, rfl⟩ := f1
      obtain ⟨a0, rfl⟩ : ∃ a0, p = some a0 := by
        cases p with
        | none => have := f2 rfl; simp [u8s] at this; exact absurd this n1
        | some a0 => exact ⟨a0, rfl⟩
      have hll : (u8s l).length = l.length := by simp [u8s]
      have hfl : ls.flatten = l := by
        have : ls = [l] := by
          match ls, hlm, k1 with
          | [a], _, k1 => simp at k1; rw [k1]
          | a :: b :: r, h, _ => simp [hm1] at h
        rw [this]; simp
      subst hm1
      have := Any.bytes_Join_one Try.joinL g lo (40 - lo) a0 cap (u8s l) (.slice none 0 0) w (by rw [hll]; exact k2) (f3 a0 rfl) (by rw [hll]; exact List.length_pos_iff.2 n1) (by rw [hll, ← hfl]; omega)
      rw [hfl]; exact this
    · let vl : List Value := (List.range m).map fun k => (c[lo + k]?).getD undef
      have hvl : ∀ (k : Nat) (v : Value), vl[k]? = some v → k < m ∧ ∃ (p : Option Addr) (cap : Nat) (l : List Int), ls[k]? = some l ∧ v = .slice p l.length cap ∧ w.cell? ⟨g, lo + k, none⟩ = some v ∧ CR TT w S (.list (.int .u8)) l v := fun k v hv => by
        have hk : k < m := by have := (List.getElem?_eq_some_iff.1 hv).1; simpa [vl] using this
        obtain ⟨p, cap, l, k1, k2, k3⟩ := hcell k hk
        have : v = .slice p l.length cap := by
          have hv : ((List.range m).map fun k => (c[lo + k]?).getD undef)[k]? = some v := hv
          rw [List.getElem?_map, List.getElem?_range hk] at hv
          simp only [Option.map_some, Option.some.injEq] at hv
          unfold World.cell? at k2
          have b2 : w.heap[g]? = _ := b2
          simp [b2] at k2
          rw [← hv, k2]; rfl
        subst this
        exact ⟨hk, p, cap, l, k1, rfl, k2, k3⟩
      have hP : Lib.PartsAt w ⟨g, lo, none⟩ vl (ls.map u8s) := by
        refine ⟨by simp [vl, hlm], fun i v hv => ?_, fun i v l hv hl => ?_⟩
        · obtain ⟨_, p, cap, l, _, _, k3, _⟩ := hvl i v hv
          have e : (⟨g, lo, none⟩ : Addr).add i = ⟨g, lo + i, none⟩ := add_plain _ _ _
          rw [e]; exact k3
        · obtain ⟨_, p, cap, l', k1, _, _, k4⟩ := hvl i v hv
          rw [List.getElem?_map, k1] at hl
          simp only [Option.map_some, Option.some.injEq] at hl
          subst hl
          exact k4.holds (hbytes k1).2
      have := Any.bytes_Join_many Try.joinL g lo m (40 - lo) vl (ls.map u8s) (.slice none 0 0) [] w (by simp [hlm]) (by omega) hP (by omega) ⟨none, 0, rfl, fun _ => rfl, fun a ha => by cases ha⟩ (by omega) (by rw [lens_u8]; simp only [List.length_nil, Nat.zero_mul, Nat.add_zero]; omega)
      rw [join_u8] at this
      exact this
  refine fin.mono ?_
  rintro e w' ⟨v', rfl, hF, hB⟩
  have hc := Chg.ofBelow hB
  have hcr := CR.fresh (S := S) hF hfb hfne fun b hb => (hsim.own b hb).2
  refine ⟨[], S, φ, [v'], ?_, ⟨hcr, trivial⟩, rfl, fun i hi => by cases hi⟩
  have := hsim.pure hc
  exact this

end Go.X
