/- A law's arguments, as the statement reads them, are typed things; a law that tells true. Nothing here is about one program. -/
import Derived.Test.YtjjlcenmifcaeaaX20
import Derived.Test.YtjjlcenmifcaeaaOp
namespace Go.X
open Go.RowKit Go.V Go.ChangeShapes Go.WideShapes Go.ChangeAt Go.Deep

/-- numbers lie within their kinds, lists are no longer than may be. -/
inductive GoodV (T : Tab) : (t : Ty) → den T.U t → Prop
  | int (k : IntKind) (x : Int) (h : k.min ≤ x ∧ x ≤ k.max) : GoodV T (.int k) x
  | bool (b : Bool) : GoodV T .bool b
  | str (s : ByteArray) (h : s.size ≤ maxLen) : GoodV T .str s
  | list (e : Ty) (xs : List (den T.U e)) (hl : xs.length ≤ maxLen) (h : ∀ x ∈ xs, ∀ c ∈ flat T e x, GoodV T c.t c.x) : GoodV T (.list e) xs
def Good (T : Tab) (t : Ty) (x : den T.U t) : Prop := ∀ c ∈ flat T t x, GoodV T c.t c.x
def cellsTy (ct : Nat → List Ty) : Ty → List Ty | .user i => ct i | t => [t]
/-- What is told of a program's structs. -/
structure Packs (T : Tab) (ct : Nat → List Ty) : Prop where
  pack : ∀ (i : Nat) (cl : List (Cell T.U)), cl.map (·.t) = ct i → ∃ x, T.pack i cl = some x
  size : ∀ i, T.size i = (ct i).length
def opnFields (P : Program) (g : TypeId → List Ty → Bool) : List Field → Nat → List Ty → Bool
  | [], _, tys => match tys with | [] => true | _ :: _ => false
  | f :: r, o, tys => Nat.beq f.offset o && (Nat.ble (P.cellsOf f.type) tys.length && (g f.type (tys.take (P.cellsOf f.type)) && opnFields P g r (o + P.cellsOf f.type) (tys.drop (P.cellsOf f.type))))
/-- A type's cells are of these sorts. -/
def opnB (P : Program) (ct : Nat → List Ty) : Nat → TypeId → List Ty → Bool
  | 0, _, _ => false
  | n + 1, t, tys => match P.underlying t with
    | some (.int k) => match tys with | [.int k'] => kindEq k k' && Nat.beq (P.cellsOf t) 1 | _ => false
    | some .bool => match tys with | [.bool] => Nat.beq (P.cellsOf t) 1 | _ => false
    | some .string => match tys with | [.str] => Nat.beq (P.cellsOf t) 1 | _ => false
    | some (.slice e) => match tys with | [.list ty] => Nat.ble 1 (cellsTy ct ty).length && (Nat.beq (P.cellsOf e) (cellsTy ct ty).length && opnB P ct n e (cellsTy ct ty)) | _ => false
    | some (.struct fs) => opnFields P (opnB P ct n) fs.toList 0 tys
    | _ => false
section
variable {T : Tab} {P : Program} {ct : Nat → List Ty} {H : Type} {enc : TypeId × Value → H} {w : World}
theorem ofCells (hp : Packs T ct) {ty : Ty} {cl : List (Cell T.U)} (h : cl.map (·.t) = cellsTy ct ty) : ∃ x : den T.U ty, flat T ty x = cl := by
  have one : ∀ ty : Ty, ty.one = true → cl.map (·.t) = [ty] → ∃ x : den T.U ty, flat T ty x = cl := by
    intro ty ho h
    match cl, h with
    | [⟨t, x⟩], h =>
      simp only [List.map_cons, List.map_nil, List.cons.injEq, and_true] at h
      subst h
      exact ⟨x, flat_one T ho x⟩
  cases ty with
  | user i =>
    obtain ⟨x, hx⟩ := hp.pack i cl h
    exact ⟨x, T.packed _ _ _ hx⟩
  | int k => exact one _ rfl h
  | bool => exact one _ rfl h
  | str => exact one _ rfl h
  | list e => exact one _ rfl h
  | nl e => exact one _ rfl h
theorem szT_len (hp : Packs T ct) (ty : Ty) : szT T ty = (cellsTy ct ty).length := by
  cases ty with
  | user i => exact hp.size i
  | _ => rfl
theorem opn_sound (hp : Packs T ct) : ∀ (n : Nat) (t : TypeId) (tys : List Ty), opnB P ct n t tys = true → ∀ (m : Nat) (cs : List Value) (x : DataW H × List MemPlace), DataW.trod enc P w 0 (fun _ => true) true m t cs = some x → cs.length = tys.length →
    ∃ cl : List (Cell T.U), cl.map (·.t) = tys ∧ CellsR T w [] cl cs ∧ ∀ c ∈ cl, GoodV T c.t c.x := by
  have cell1 : ∀ (c : Cell T.U) (v : Value), CR T w [] c.t c.x v → CellsR T w [] [c] [v] := fun c v h => ⟨rfl, fun j c' v' h1 h2 => by
    cases j with
    | zero => simp at h1 h2; subst h1; subst h2; exact h
    | succ j => simp at h1⟩
  intro n
  induction n with
  | zero => intro t tys h; unfold opnB at h; cases h
  | succ n ih =>
    intro t tys h m cs x hx hlen
    unfold opnB at h
    split at h <;> try (cases h; done)
    · rename_i k hu
      split at h <;> try (cases h; done)
      rename_i k'
      simp only [Bool.and_eq_true] at h
      have := kindEq_eq h.1; subst this
      obtain ⟨a, h1, _, wa⟩ := DataW.trod_int hu hx
      subst h1
      exact ⟨[⟨.int k, a⟩], rfl, cell1 _ _ (.int k a), fun c hc => by simp at hc; subst hc; exact .int k a (by simpa [Lit.wf] using wa)⟩
    · rename_i hu
      split at h <;> try (cases h; done)
      obtain ⟨b, h1, _⟩ := DataW.trod_bool hu hx
      subst h1
      exact ⟨[⟨.bool, b⟩], rfl, cell1 _ _ (.bool b), fun c hc => by simp at hc; subst hc; exact .bool b⟩
    · rename_i hu
      split at h <;> try (cases h; done)
      obtain ⟨s, h1, _, hs⟩ := DataW.trod_string hu hx
      subst h1
      exact ⟨[⟨.str, s⟩], rfl, cell1 _ _ (.str s), fun c hc => by simp at hc; subst hc; exact .str s hs⟩
    · rename_i e hu
      split at h <;> try (cases h; done)
      rename_i ty
      simp only [Bool.and_eq_true] at h
      obtain ⟨h1s, h2, h3⟩ := h
      have h1s := Nat.le_of_ble_eq_true h1s
      have h2 := Nat.eq_of_beq_eq_true h2
      rcases DataW.trod_slice hu hx with ⟨rfl, _⟩ | ⟨a, len, cap, elems, rest, q, rfl, rfl, _, _, hl, hmx, hel, hsome, _, _⟩
      · refine ⟨[⟨.list ty, ([] : List (den T.U ty))⟩], rfl, cell1 ⟨.list ty, ([] : List (den T.U ty))⟩ _ CR.nilS, fun c hc => ?_⟩
        simp at hc; subst hc
        exact .list ty [] (Nat.zero_le _) (fun x hx => by cases hx)
      · have key : ∀ i, ∃ y : den T.U ty, i < len → Good T ty y ∧ ∃ cs', w.cells? 0 (a.add (i * P.cellsOf e)) (P.cellsOf e) = some cs' ∧ CellsR T w [] (flat T ty y) cs' := by
          intro i
          by_cases hi : i < len
          · have h4 := hsome i hi
            rw [List.getElem?_eq_getElem (by omega)] at h4
            obtain ⟨cs', h5, h6⟩ := Option.bind_eq_some_iff.1 h4
            obtain ⟨cl, g1, g2, g3⟩ := ih e (cellsTy ct ty) h3 _ cs' _ h6 (by rw [(cells_get h5).1, h2])
            obtain ⟨y, rfl⟩ := ofCells hp g1
            exact ⟨y, fun _ => ⟨g3, cs', h5, g2⟩⟩
          · exact ⟨dflt T ty, fun h => absurd h hi⟩
        let B : Nat → den T.U ty := fun i => (key i).choose
        have hB : ∀ i, i < len → Good T ty (B i) ∧ ∃ cs', w.cells? 0 (a.add (i * P.cellsOf e)) (P.cellsOf e) = some cs' ∧ CellsR T w [] (flat T ty (B i)) cs' := fun i => (key i).choose_spec
        have hBl : ((List.range len).map B).length = len := by simp
        have hgetB : ∀ (k : Nat) (y : den T.U ty), ((List.range len).map B)[k]? = some y → k < len ∧ y = B k := by
          intro k y hk
          obtain ⟨h1, h2⟩ := List.getElem?_eq_some_iff.1 hk
          simp at h1 h2
          exact ⟨h1, h2.symm⟩
        have hcellv : ∀ i, i < len → ∀ (j : Nat) (c : Cell T.U), (flat T ty (B i))[j]? = some c → ∃ v, w.cell? ((a.add (i * P.cellsOf e)).add j) = some v ∧ CR T w [] c.t c.x v := by
          intro i hi j c hc
          obtain ⟨_, cs', h5, h6⟩ := hB i hi
          have hj := (List.getElem?_eq_some_iff.1 hc).1
          rw [h6.1] at hj
          have hv : cs'[j]? = some cs'[j] := List.getElem?_eq_getElem hj
          exact ⟨_, (cells_get h5).2 j _ hv, h6.2 j c _ hc hv⟩
        have hpos : 0 < szT T ty → ∀ i, i < len → a.spot = none ∧ a.block < w.heap.size := by
          intro hp0 i hi
          have hfl : 0 < (flat T ty (B 0)).length := by rw [flat_len]; exact hp0
          obtain ⟨v, hv, _⟩ := hcellv 0 (by omega) 0 _ (List.getElem?_eq_getElem hfl)
          simp only [Nat.zero_mul, Addr.add, if_true] at hv
          have hblk := World.block_lt_of_cell? w _ hv
          refine ⟨?_, hblk⟩
          unfold World.cell? at hv
          split at hv
          · split at hv
            · cases hv
            · rename_i hs; simpa using hs
          · cases hv
        have hadd : ∀ i j, a.spot = none → (a.add (i * P.cellsOf e)).add j = ⟨a.block, a.off + (i * szT T ty + j), none⟩ := by
          intro i j hs
          obtain ⟨ab, ao, asp⟩ := a
          have hs : asp = none := hs
          subst hs
          rw [szT_len hp, ← h2]
          unfold Addr.add
          split <;> split <;> simp_all <;> omega
        let u : Nat → Nat → Value := fun k j => (w.cell? ((a.add (k * P.cellsOf e)).add j)).getD undef
        refine ⟨[⟨.list ty, (List.range len).map B⟩], rfl, cell1 ⟨.list ty, (List.range len).map B⟩ _ ?_, fun c hc => ?_⟩
        · -- the list
          · have hz : 0 < szT T ty := by rw [szT_len hp]; omega
            have hcr : CR T w [] (.list ty) ((List.range len).map B) (.slice (some a) ((List.range len).map B).length cap) := by
              refine .list ty _ (some a) cap u (by rw [hBl]; exact hl) (fun h => by cases h) (fun hne => ?_) ?_ ?_
              · have h0 : 0 < len := by
                  rcases Nat.eq_zero_or_pos len with h | h
                  · subst h; exact absurd rfl hne
                  · exact h
                obtain ⟨h7, h8⟩ := hpos hz 0 h0
                refine ⟨?_, h8, by simp⟩
                obtain ⟨ab, ao, asp⟩ := a
                have h7 : asp = none := h7
                subst h7; rfl
              · intro k j c hk
                cases hg : ((List.range len).map B)[k]? with
                | none => rw [hg] at hk; cases hk
                | some y =>
                  rw [hg] at hk
                  simp only [Option.map_some, Option.some.injEq] at hk
                  obtain ⟨hkl, rfl⟩ := hgetB k y hg
                  obtain ⟨v, hv, _⟩ := hcellv k hkl j c hk
                  obtain ⟨h7, _⟩ := hpos hz k hkl
                  show w.cell? ⟨a.block, a.off + (k * szT T ty + j), none⟩ = some (u k j)
                  rw [← hadd k j h7]
                  show _ = some ((w.cell? ((a.add (k * P.cellsOf e)).add j)).getD undef)
                  rw [hv]; rfl
              · intro k j c hk
                cases hg : ((List.range len).map B)[k]? with
                | none => rw [hg] at hk; cases hk
                | some y =>
                  rw [hg] at hk
                  simp only [Option.map_some, Option.some.injEq] at hk
                  obtain ⟨hkl, rfl⟩ := hgetB k y hg
                  obtain ⟨v, hv, hr⟩ := hcellv k hkl j c hk
                  show CR T w [] c.t c.x ((w.cell? ((a.add (k * P.cellsOf e)).add j)).getD undef)
                  rw [hv]; exact hr
            rw [hBl] at hcr; exact hcr
        · simp at hc; subst hc
          refine .list ty _ (by rw [hBl]; omega) fun y hy => ?_
          obtain ⟨i, hi, rfl⟩ := List.mem_map.1 hy
          exact (hB i (List.mem_range.1 hi)).1
    · rename_i fs hu
      obtain ⟨xs, q, rfl, _, hcl, hxl, hf⟩ := DataW.trod_struct hu hx
      have go : ∀ (l : List Field) (o : Nat) (tys : List Ty), opnFields P (opnB P ct n) l o tys = true → ∀ (i0 : Nat), (∀ (i : Nat) (f : Field), l[i]? = some f → ∃ y, DataW.trod enc P w 0 (fun _ => true) true q f.type ((cs.drop f.offset).take (P.cellsOf f.type)) = some y) → o + tys.length = cs.length →
          ∃ cl : List (Cell T.U), cl.map (·.t) = tys ∧ CellsR T w [] cl (cs.drop o) ∧ ∀ c ∈ cl, GoodV T c.t c.x := by
        intro l
        induction l with
        | nil =>
          intro o tys h i0 _ hlen
          unfold opnFields at h
          split at h <;> try (cases h; done)
          refine ⟨[], rfl, ⟨by simp at hlen; simp; omega, fun j c v h => by simp at h⟩, fun c hc => by cases hc⟩
        | cons f r ihl =>
          intro o tys h i0 hall hlen
          unfold opnFields at h
          simp only [Bool.and_eq_true] at h
          obtain ⟨h1, h2, h3, h4⟩ := h
          have h1 := Nat.eq_of_beq_eq_true h1
          have h2 := Nat.le_of_ble_eq_true h2
          obtain ⟨y, hy⟩ := hall 0 f rfl
          rw [h1] at hy
          obtain ⟨cl1, a1, a2, a3⟩ := ih f.type _ h3 q _ y hy (by rw [List.length_take, List.length_take, List.length_drop]; omega)
          obtain ⟨cl2, b1, b2, b3⟩ := ihl (o + P.cellsOf f.type) _ h4 0 (fun i g hg => hall (i + 1) g (by simpa using hg)) (by rw [List.length_drop]; omega)
          refine ⟨cl1 ++ cl2, by rw [List.map_append, a1, b1, List.take_append_drop], ?_, fun c hc => (List.mem_append.1 hc).elim (a3 c) (b3 c)⟩
          have := a2.app b2
          rwa [← List.drop_drop, List.take_append_drop] at this
      have := go fs.toList 0 tys h 0 (fun i f hfi => by
        have hfi' : fs[i]? = some f := by simpa using hfi
        have h5 := hf i f hfi'
        have hlt := (Array.getElem?_eq_some_iff.1 hfi').1
        rw [List.getElem?_eq_getElem (by omega)] at h5
        exact ⟨_, h5⟩) (by omega)
      simpa using this
def notSt (P : Program) (t : TypeId) : Bool := match P.underlying t with | some (.struct _) => false | _ => true
/-- An argument. -/
theorem openArg (hp : Packs T ct) {t : TypeId} {ty : Ty} (hty : ∀ i, ty ≠ .user i) (n : Nat) (ho : opnB P ct n t (cellsTy ct ty) = true) (hst : notSt P t = true) {r : Reach} {base : Nat} {v : Value} {d : DataW H} {p : List MemPlace} (hv : Value.okWide P w r base t v) (h : DataW.Trod enc P w 0 (fun _ => true) true t v d p) :
    ∃ x : den T.U ty, VR T w [] (fun _ => ⟨none, 0, 0, []⟩) (toAV T ty x) v ∧ Good T ty x := by
  obtain ⟨m, hm⟩ := h
  have hone : v.cells = #[v] := by
    cases n with
    | zero => unfold opnB at ho; cases ho
    | succ n =>
      unfold opnB at ho
      split at ho <;> try (cases ho; done)
      · rename_i k hu; obtain ⟨a, rfl⟩ := okWide_int hu hv; rfl
      · rename_i hu; obtain ⟨b, rfl, _⟩ := open_bool hu hv ⟨m, hm⟩; rfl
      · rename_i hu; obtain ⟨s, rfl⟩ := okWide_string hu hv; rfl
      · rename_i e hu; obtain ⟨a, len, cap, rfl⟩ := okWide_slice hu hv; rfl
      · rename_i fs hu
        -- a struct: its cells are not one typed cell
        unfold notSt at hst; rw [hu] at hst; cases hst
  obtain ⟨cl, h1, h2, h3⟩ := opn_sound (T := T) hp n t _ ho m _ _ hm (by rw [hone]; cases ty <;> first | rfl | exact absurd rfl (hty _))
  obtain ⟨x, rfl⟩ := ofCells hp h1
  refine ⟨x, ?_, h3⟩
  rw [hone] at h2
  have hf : flat T ty x = [⟨ty, x⟩] := flat_one T (by cases ty <;> first | rfl | exact absurd rfl (hty _)) x
  rw [hf] at h2
  have := h2.2 0 _ v rfl rfl
  cases ty <;> first | exact this | exact absurd rfl (hty _)
theorem Good.list {e : Ty} {xs : List (den T.U e)} (h : Good T (.list e) xs) : xs.length ≤ maxLen ∧ ∀ x ∈ xs, Good T e x := by
  have := h ⟨.list e, xs⟩ (by simp [flat])
  cases this with
  | list _ _ h1 h2 => exact ⟨h1, h2⟩
theorem GoodV.intB {k : IntKind} {x : Int} (h : GoodV T (.int k) x) : k.min ≤ x ∧ x ≤ k.max := by
  cases h with
  | int _ _ h => exact h
theorem Good.int {k : IntKind} {x : Int} (h : Good T (.int k) x) : k.min ≤ x ∧ x ≤ k.max := GoodV.intB (h ⟨.int k, x⟩ (List.mem_singleton.2 rfl))
theorem lawRet {f : FuncId} {ps : List PT} {g : denPs T ps → Option (denIo T (iosP ps) (denRs T [.val .bool]))} (hok : FnOk T P f ⟨ps, [.val .bool], g⟩) (hio : iosP ps = []) (hent : ∀ x : denPs T ps, entPs T ps x = []) {x : denPs T ps} {y : denIo T (iosP ps) (denRs T [.val .bool])} (hy : g x = some y) (hl : lastIo T (iosP ps) y = (true : Bool))
    {φ : Nat → RA} {vs : List Value} (hvs : VRL T w [] φ (argsL T 0 ps x) vs) : Calls P f vs.toArray w (RetV w (.bool true)) := by
  have hio0 : (iosP ps).length = 0 := by rw [hio]; rfl
  refine (hok x y hy w [] φ vs hvs (fun b hb => by cases hb) (fun k e hk => by rw [show entPs T (FnSpec.ps ⟨ps, [.val .bool], g⟩) x = [] from hent x] at hk; simp at hk) (fun j hj => by
    have hj : j < (iosP ps).length := hj
    omega) (fun j k hj => by
    have hj : j < (iosP ps).length := hj
    omega)).mono fun e w' hR => ?_
  cases e with
  | returned v =>
    obtain ⟨F1, H1, F1', S1, φ1, as1, us, g1, g2, rfl, g4, g5, g6⟩ := hR
    have hchg : Chg [] w w' := by
      have := g1.chg
      rw [show blksN φ (iosP ps).length = [] by rw [hio0]; rfl] at this
      exact this
    refine ⟨hchg, ?_⟩
    have hlast := (rdIo_spec g4).1
    rw [hl] at hlast
    match as1, hlast, us, g2 with
    | [a], hlast, [v], g2 =>
      have hrd : ofAV T .bool a = some true := hlast
      exact (cbool_rel (φ := φ1) (ofAV_rel (t := .bool) hrd g2.1 φ1))
    | [], hlast, _, _ => cases hlast
    | _ :: _ :: _, hlast, _, _ => cases hlast
  | panicked ch => exact hR.elim
  | outgrown => exact hR.elim
end
end Go.X
