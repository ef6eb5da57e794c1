/- The keys of a map, sorted: what slices.Sorted(maps.Keys(m)) answers, as a call by shape. Nothing here is about one program. -/
import Derived.Test.YtjjlcenmifcaeaaX22
import Derived.Shelf.SlIterI.Nil
import Derived.Shelf.SortM.Plain
import Derived.Shelf.SortM.SortNone
namespace Go.X
open Go.RowKit Go.V Go.Maps

/-! ### A list of numbers, sorted -/
def insI (x : Int) : List Int → List Int
  | [] => [x]
  | y :: r => if x ≤ y then x :: y :: r else y :: insI x r
def sortI : List Int → List Int
  | [] => []
  | x :: r => insI x (sortI r)
theorem insI_perm (x : Int) : ∀ l : List Int, (insI x l).Perm (x :: l)
  | [] => .refl _
  | y :: r => by
    unfold insI
    split
    · exact .refl _
    · exact ((insI_perm x r).cons y).trans (.swap x y r)
theorem sortI_perm : ∀ l : List Int, (sortI l).Perm l
  | [] => .refl _
  | x :: r => (insI_perm x _).trans ((sortI_perm r).cons x)
theorem insI_sorted (x : Int) : ∀ {l : List Int}, l.Pairwise (· ≤ ·) → (insI x l).Pairwise (· ≤ ·)
  | [], _ => by simp [insI]
  | y :: r, h => by
    unfold insI
    rw [List.pairwise_cons] at h
    split
    · rename_i hxy
      refine List.pairwise_cons.2 ⟨fun z hz => ?_, List.pairwise_cons.2 h⟩
      rcases List.mem_cons.1 hz with rfl | hz
      · exact hxy
      · exact Int.le_trans hxy (h.1 z hz)
    · rename_i hxy
      refine List.pairwise_cons.2 ⟨fun z hz => ?_, insI_sorted x h.2⟩
      rcases List.mem_cons.1 ((insI_perm x r).mem_iff.1 hz) with rfl | hz
      · omega
      · exact h.1 z hz
theorem sortI_sorted : ∀ l : List Int, (sortI l).Pairwise (· ≤ ·)
  | [] => .nil
  | x :: r => insI_sorted x (sortI_sorted r)
theorem sorted_eq : ∀ {a b : List Int}, a.Perm b → a.Pairwise (· ≤ ·) → b.Pairwise (· ≤ ·) → a = b :=
  fun h h1 h2 => List.Perm.eq_of_pairwise (le := fun a b => a ≤ b) (fun _ _ _ _ h1 h2 => Int.le_antisymm h1 h2) h1 h2 h
theorem mergeSort_sortI (l : List Int) : l.mergeSort (fun x y => decide (x ≤ y)) = sortI l := by
  have tr : ∀ a b c : Int, decide (a ≤ b) = true → decide (b ≤ c) = true → decide (a ≤ c) = true := fun a b c h1 h2 => by simp only [decide_eq_true_eq] at *; exact Int.le_trans h1 h2
  have to : ∀ a b : Int, (decide (a ≤ b) || decide (b ≤ a)) = true := fun a b => by simp only [Bool.or_eq_true, decide_eq_true_eq]; exact Int.le_total a b
  refine sorted_eq ((List.mergeSort_perm l _).trans (sortI_perm l).symm) ?_ (sortI_sorted l)
  exact (List.pairwise_mergeSort tr to l).imp fun h => by simpa using h
/-- as many as may be, each of 64 bits. -/
def keysOk {α : Type} (m : List (Int × α)) : Bool := m.all (fun p => decide (-9223372036854775808 ≤ p.1) && decide (p.1 ≤ 9223372036854775807)) && Nat.ble m.length 17592186044416
def sortedKeys {α : Type} (m : List (Int × α)) : Option (((Unit × Unit) × List (Int × α) × Unit) × List Int × Unit) := match keysOk m with | true => some ((((), ()), m, ()), sortI (m.map Prod.fst), ()) | false => none

section
variable {T : Tab} {P : Program}
def trivR : Value → Option (DataW Unit × List MemPlace) := fun _ => some (.nil, [])
/-- What is known of slices.Sorted's call with what maps.Keys answers. -/
abbrev SortedCall (P : Program) (f g : FuncId) (kt et : TypeId) : Prop := ∀ (Bm b nn : Nat) (D0 : DataW Unit) (w : World), Bm < w.heap.size → w.cell? ⟨Bm, 0, none⟩ = some (.map (some b)) → w.ownsMap P kt trivR b nn D0 → Maps.size D0 ≤ 17592186044416 →
  Calls P f #[.func (.func g) #[] #[.pointer (some ⟨Bm, 0, none⟩)]] w fun e w' => ∃ (v : Value) (ss : List Int), e = .returned v ∧ ss.Perm (intKeys D0) ∧
    w'.ownsRow w.heap.size et 1 v ss.length ((ss.mergeSort (fun x y => decide (x ≤ y))).map encZ) ∧ (v = .slice none 0 0 ↔ ss = []) ∧ Below w.heap.size w w'
theorem keysOk_spec {α : Type} {m : List (Int × α)} (h : keysOk m = true) : (∀ p ∈ m, -9223372036854775808 ≤ p.1 ∧ p.1 ≤ 9223372036854775807) ∧ m.length ≤ 17592186044416 := by
  unfold keysOk at h
  rw [Bool.and_eq_true, List.all_eq_true] at h
  refine ⟨fun p hp => ?_, Nat.le_of_ble_eq_true h.2⟩
  have := h.1 p hp
  rwa [Bool.and_eq_true, decide_eq_true_eq, decide_eq_true_eq] at this
theorem sorted_core {f g : FuncId} {kt et mt : TypeId} {α : Type} {en : Ent T.U} (hC : SortedCall P f g kt et) (hk : P.underlying kt = some (.int .i64)) {m : List (Int × α)} (hok : keysOk m = true)
    (hen : ∀ {w : World} {S : List Nat} {φ : Nat → RA}, EntR T w S φ 1 en → ∃ g l c, (φ 1).ad = some ⟨g, 0, none⟩ ∧ Mp w g l c ∧ l.toList.map (fun e => e.key) = m.map (fun p => .int .i64 p.1) ∧ MapKept.Stamped l c) {w : World} {S : List Nat} {φ : Nat → RA} (hsim : Sim T w ⟨blksN φ 2, S, (List.range 2).map φ⟩ ⟨[], [.blk mt [.mp 1], en]⟩ [] w S φ)
    {vs : List Value} (hvs : VRL T w S φ [.fn (.func g) [] [.ptr 0 0]] vs) : Calls P f vs.toArray w fun e w' => match e with
      | .returned v => ∃ (F1 : PF) (S1 : List Nat) (φ1 : Nat → RA) (us : List Value), Sim T w ⟨blksN φ 2, S, (List.range 2).map φ⟩ ⟨[], [.blk mt [.mp 1], en] ++ [.row et (.int .i64) (sortI (m.map Prod.fst))]⟩ F1 w' S1 φ1 ∧ VRL T w' S1 φ1 [.own 2] us ∧ v = packV us ∧ ∀ i ∈ idsL ([.own 2] : List (AV T.U)), i < 3
      | _ => False := by
  obtain ⟨hb, hn⟩ := keysOk_spec hok
  match vs, hvs with
  | [v], hvs =>
    obtain ⟨va, vb, rfl, h1, h2⟩ := hvs.1
    obtain ⟨g0, c0, a1, a2, a3, a4⟩ := hsim.ents 0 _ rfl
    obtain ⟨g1, l, c1, b1, b2, hkeys, b5⟩ := hen (hsim.ents 1 _ rfl)
    have hva : va = #[] := by
      cases hl : va.toList with
      | nil => exact Array.toList_eq_nil_iff.1 hl
      | cons _ _ => rw [hl] at h1; exact h1.elim
    subst hva
    have hvb : vb = #[.pointer (some ⟨g0, 0, none⟩)] := by
      match hl : vb.toList, h2 with
      | [u], h2 =>
        obtain ⟨g', e1, e2⟩ := h2.1
        rw [a1] at e1; simp only [Option.some.injEq, Addr.mk.injEq, and_true] at e1; subst e1
        rw [e2] at hl
        exact Array.toList_inj.1 hl
    subst hvb
    have hc0 : w.cell? ⟨g0, 0, none⟩ = some (.map (some g1)) := by
      have a5 := a4.vrl T (by rfl)
      match hl : c0.toList, a5 with
      | [u], a5 =>
        obtain ⟨g', e1, e2⟩ := a5.1
        rw [b1] at e1; simp only [Option.some.injEq, Addr.mk.injEq, and_true] at e1; subst e1
        have : c0 = #[u] := Array.toList_inj.1 hl
        subst this; subst e2
        unfold World.cell?
        have a2 : w.heap[g0]? = _ := a2
        simp [a2]
    have hlen : m.length = l.toList.length := by have := congrArg List.length hkeys; simpa using this.symm
    have hread : ∀ e ∈ l.toList, ∃ x : Int, e.key = .int .i64 x ∧ WideElems.rd P kt trivR e = some (.int .i64 x, .nil) := by
      intro e he
      have hm : e.key ∈ l.toList.map (fun e => e.key) := List.mem_map.2 ⟨e, he, rfl⟩
      rw [hkeys] at hm
      obtain ⟨p, hp, hpe⟩ := List.mem_map.1 hm
      have hbp := hb p hp
      refine ⟨p.1, hpe.symm, ?_⟩
      have hkey : keyOf P kt e.key = some (.int .i64 p.1) := by
        rw [← hpe]
        have hwf : (Lit.int .i64 p.1).wf = true := by
          simp only [Lit.wf, IntKind.min, IntKind.max, IntKind.signed, IntKind.bits]
          simp
          omega
        simp [keyOf, hk, mapKey, hwf]
      simp [WideElems.rd, hkey, trivR]
    have hown : w.ownsMap P kt trivR g1 l.size (.map ((l.toList.map (WideElems.rg P kt trivR)).foldr DataW.insert [])) := by
      refine ⟨l, c1, b2, ⟨?_, b5, fun e he => ?_⟩, Nat.le_refl _, rfl⟩
      · rw [← Array.length_toList, ← hlen]; exact Nat.le_trans hn (by decide)
      · obtain ⟨x, _, hx⟩ := hread e he; exact ⟨_, hx⟩
    have hsize : Maps.size (.map ((l.toList.map (WideElems.rg P kt trivR)).foldr DataW.insert []) : DataW Unit) ≤ 17592186044416 := by
      rw [Maps.size_eq, length_sorted, List.length_map, ← hlen]; exact hn
    have hperm : (intKeys (.map ((l.toList.map (WideElems.rg P kt trivR)).foldr DataW.insert []) : DataW Unit)).Perm (m.map Prod.fst) := by
      show (((l.toList.map (WideElems.rg P kt trivR)).foldr DataW.insert []).map fun p => Go.intOf p.1).Perm _
      refine ((WideShapes.sorted_perm _).map _).trans ?_
      rw [List.map_map]
      have : ∀ {es : List MapEntry} {ms : List (Int × α)}, (∀ e ∈ es, ∃ x : Int, e.key = .int .i64 x ∧ WideElems.rd P kt trivR e = some (.int .i64 x, .nil)) → es.map (fun e => e.key) = ms.map (fun p => Value.int .i64 p.1) → es.map ((fun p : Lit × DataW Unit => Go.intOf p.1) ∘ WideElems.rg P kt trivR) = ms.map Prod.fst := by
        intro es
        induction es with
        | nil => intro ms _ h; cases ms with | nil => rfl | cons _ _ => cases h
        | cons e r ih =>
          intro ms hr h
          cases ms with
          | nil => cases h
          | cons p q =>
            simp only [List.map_cons, List.cons.injEq] at h ⊢
            obtain ⟨x, h1, h2⟩ := hr e (by simp)
            refine ⟨?_, ih (fun e' he' => hr e' (by simp [he'])) h.2⟩
            have hx := h.1.symm.trans h1
            simp only [Value.int.injEq, true_and] at hx
            simp [WideElems.rg, h2, Go.intOf, hx]
      rw [this hread hkeys]
    have hlt : g0 < w.heap.size := Blk.lt a2
    refine (hC g0 g1 l.size _ w hlt hc0 hown hsize).mono ?_
    rintro e w' ⟨v, ss, rfl, hss, hrow, hnil, hbelow⟩
    have hc := Chg.ofBelow hbelow
    have hsort : ss.mergeSort (fun x y => decide (x ≤ y)) = sortI (m.map Prod.fst) := by
      rw [mergeSort_sortI]
      exact sorted_eq ((sortI_perm ss).trans ((hss.trans hperm).trans (sortI_perm _).symm)) (sortI_sorted _) (sortI_sorted _)
    rw [hsort] at hrow
    have hl2 : ss.length = (sortI (m.map Prod.fst)).length := by rw [(hss.trans hperm).length_eq, (sortI_perm _).length_eq]
    have hcells : ∀ S', CellsR T w' S' ((sortI (m.map Prod.fst) : List (den T.U (.int .i64))).flatMap (flat T (.int .i64))) ((sortI (m.map Prod.fst)).map encZ) := by
      intro S'
      generalize sortI (m.map Prod.fst) = ks
      have hf : (ks : List (den T.U (.int .i64))).flatMap (flat T (.int .i64)) = ks.map fun x : Int => (⟨.int .i64, x⟩ : Cell T.U) := by
        induction ks with
        | nil => rfl
        | cons a r ih => rw [List.map_cons, ← ih]; rfl
      rw [hf]
      refine ⟨by simp, fun j c v h1 h2 => ?_⟩
      rw [List.getElem?_map] at h1 h2
      cases hj : ks[j]? with
      | none => rw [hj] at h1; cases h1
      | some x =>
        rw [hj] at h1 h2
        simp only [Option.map_some, Option.some.injEq] at h1 h2
        subst h1; subst h2
        exact CR.int _ _
    have hids : ∀ i ∈ idsL ([.own 2] : List (AV T.U)), i < 3 := by intro i hi; simp [idsL, AV.ids] at hi; omega
    rcases id hrow.2 with ⟨rfl, hz⟩ | ⟨gb, cap, cur, rfl, hbase, hgb, r1, r2, r3, r4⟩
    · have h1 := hsim.pure hc
      have h2 := h1.addG (Chg.refl [] w') (by simp) (by simp) (fun _ _ _ _ _ _ => by simp) (S' := S) (fun _ h => h) (fun _ h => .inl h) (r := ⟨none, 0, 0, []⟩) (fun a h => by cases at_ad h) (fun a h => by cases at_ad h) (e := .row et (.int .i64) (sortI (m.map Prod.fst)))
        ⟨w.heap.size, _, by rw [setR_eq]; rw [hz] at hrow; exact hrow, by rw [setR_eq]; exact hz.symm.trans hl2, hc.size, hcells S, fun a ha => by rw [setR_eq] at ha; cases ha⟩ (fun j hj => by cases hj)
      exact ⟨_, S, _, [.slice none 0 0], h2, ⟨by rw [VR, show ([Ent.blk mt [AV.mp 1], en] : List (Ent T.U)).length = 2 from rfl, setR_eq], trivial⟩, rfl, hids⟩
    · have hgl := (Array.getElem?_eq_some_iff.1 hgb).1
      have h2 := hsim.add (g := gb) (r := ⟨some ⟨gb, 0, none⟩, ss.length, cap, []⟩) hc hbase hgl (fun a ha => at_new ha) (e := .row et (.int .i64) (sortI (m.map Prod.fst)))
        ⟨w.heap.size, _, by rw [setR_eq]; exact hrow, by rw [setR_eq]; exact hl2, hc.size, hcells _, fun a ha => by rw [setR_eq] at ha; simp only [Option.some.injEq] at ha; subst ha; simp⟩ (fun j hj => by cases hj)
      exact ⟨_, _, _, [.slice (some ⟨gb, 0, none⟩) ss.length cap], h2, ⟨by rw [VR, show ([Ent.blk mt [AV.mp 1], en] : List (Ent T.U)).length = 2 from rfl, setR_eq], trivial⟩, rfl, hids⟩
theorem PRel.keys {w : World} {S : List Nat} {φ : Nat → RA} {r : RA} {k : IntKind} {be : TypeId} {d : Nat} {m : List (Int × T.U d)} {op : Option (Int × Nat)} {l : List MapEntry} {bs : List Nat} (h : PRel T w S φ r k be d m op l bs) : l.map (fun e => e.key) = m.map fun p => .int k p.1 := by
  refine List.ext_getElem (by simp [h.len]) fun p h1 h2 => ?_
  simp only [List.length_map] at h1 h2
  have hb : p < bs.length := by rw [← h.lenb]; exact h2
  obtain ⟨x, u⟩ : Int × T.U d := m[p]
  have := (h.at_ p m[p].1 m[p].2 l[p] bs[p] (List.getElem?_eq_getElem h2) (List.getElem?_eq_getElem h1) (List.getElem?_eq_getElem hb)).1
  simp [this]
theorem gOk_sortedP {f g : FuncId} {kt et mt be : TypeId} {d : Nat} (hC : SortedCall P f g kt et) (hk : P.underlying kt = some (.int .i64)) :
    GOk T P f ⟨[.fn g [] [.ptr 0 mt [.pm .i64 be d]]], [.blk mt [.mpo 1], .pm .i64 be d], [.row et (.int .i64)], fun x => sortedKeys x.1.2.1.1⟩ := by
  intro x y hy w S φ hsim vs hvs hoks
  have hy : sortedKeys x.1.2.1.1 = some y := hy
  unfold sortedKeys at hy
  split at hy <;> try (cases hy; done)
  rename_i hok
  have hy : ((((), ()), x.1.2.1.1, ()), sortI (x.1.2.1.1.map Prod.fst), ()) = y := Option.some.inj hy
  subst hy
  refine sorted_core (m := x.1.2.1.1) hC hk hok (fun h => ?_) hsim hvs
  obtain ⟨g, l, c, bs, h1, h2, _, h4, h5⟩ := h
  exact ⟨g, l, c, h1, h2, h4.keys, h5⟩
end
end Go.X
