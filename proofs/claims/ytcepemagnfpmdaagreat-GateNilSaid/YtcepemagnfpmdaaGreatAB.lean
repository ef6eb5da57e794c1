import Derived.Test.YtcepemagnfpmdaaGreatA9
import Derived.Test.YtcepemagnfpmdaaGreatA1
namespace Go.X
open Go.RowKit Go.V Go.ChangeShapes Go.WideShapes Go.ChangeAt Go.Deep
inductive GoodV (T : Tab) : (t : Ty) -> den T.U t -> Prop
 | int (k : IntKind) (x : Int) (h : k.min <= x /\ x <= k.max) : GoodV T (.int k) x
 | bool (b : Bool) : GoodV T .bool b
 | str (s : ByteArray) (h : s.size <= maxLen) : GoodV T .str s
 | list (e : Ty) (xs : List (den T.U e)) (hl : xs.length <= maxLen) (h : ∀ x ∈ xs, ∀ c ∈ flat T e x, GoodV T c.t c.x) : GoodV T (.list e) xs
def Good (T : Tab) (t : Ty) (x : den T.U t) : Prop := ∀ c ∈ flat T t x, GoodV T c.t c.x
def cellsTy (ct : Nat -> List Ty) : Ty -> List Ty | .user i => ct i | t => [t]
structure Packs (T : Tab) (ct : Nat -> List Ty) : Prop where
 pack : ∀ (i : Nat) (cl : List (Cell T.U)), cl.map (·.t) = ct i -> ∃ x, T.pack i cl = some x
 size : ∀ i, T.size i = (ct i).length
def opnFields (P : Program) (g : TypeId -> List Ty -> Bool) : List Field -> Nat -> List Ty -> Bool
 | [], _, tys => match tys with | [] => true | _ :: _ => false
 | f :: r, o, tys => Nat.beq f.offset o && (Nat.ble (P.cellsOf f.type) tys.length && (g f.type (tys.take (P.cellsOf f.type)) && opnFields P g r (o + P.cellsOf f.type) (tys.drop (P.cellsOf f.type))))
def opnB (P : Program) (ct : Nat -> List Ty) : Nat -> TypeId -> List Ty -> Bool
 | 0, _, _ => false
 | n + 1, t, tys => match P.underlying t with
  | some (.int k) => match tys with | [.int k'] => kindEq k k' && Nat.beq (P.cellsOf t) 1 | _ => false
  | some .bool => match tys with | [.bool] => Nat.beq (P.cellsOf t) 1 | _ => false
  | some .string => match tys with | [.str] => Nat.beq (P.cellsOf t) 1 | _ => false
  | some (.slice e) => match tys with | [.list ty] => Nat.ble 1 (cellsTy ct ty).length && (Nat.beq (P.cellsOf e) (cellsTy ct ty).length && opnB P ct n e (cellsTy ct ty)) | _ => false
  | some (.struct fs) => opnFields P (opnB P ct n) fs.toList 0 tys
  | _ => false
section
variable {T : Tab} {P : Program} {ct : Nat -> List Ty} {H : Type} {enc : TypeId × Value -> H} {w : World}
theorem ofCells (hp : Packs T ct) {ty : Ty} {cl : List (Cell T.U)} (h : cl.map (·.t) = cellsTy ct ty) : ∃ x : den T.U ty, flat T ty x = cl := by
 have one : ∀ ty : Ty, ty.one = true -> cl.map (·.t) = [ty] -> ∃ x : den T.U ty, flat T ty x = cl := by
  intro ty ho h
  match cl, h with
  | [⟨t, x⟩], h =>
   simp only [List.map_cons, List.map_nil, List.cons.injEq, and_true] at h
   subst h
   exact ⟨x, flat_one T ho x⟩
 cases ty with
 | user i =>
  obtain ⟨x, hx⟩ := hp.pack i cl h
  exact ⟨x, T.packed _ _ _ hx⟩
 | int k => exact one _ rfl h
 | bool => exact one _ rfl h
 | str => exact one _ rfl h
 | list e => exact one _ rfl h
 | nl e => exact one _ rfl h
theorem szT_len (hp : Packs T ct) (ty : Ty) : szT T ty = (cellsTy ct ty).length := by
 cases ty with
 | user i => exact hp.size i
 | _ => rfl
theorem opn_sound (hp : Packs T ct) : ∀ (n : Nat) (t : TypeId) (tys : List Ty), opnB P ct n t tys = true -> ∀ (m : Nat) (cs : List Value) (x : DataW H × List MemPlace), DataW.trod enc P w 0 (fun _ => true) true m t cs = some x -> cs.length = tys.length ->
  ∃ cl : List (Cell T.U), cl.map (·.t) = tys /\ CellsR T w [] cl cs /\ ∀ c ∈ cl, GoodV T c.t c.x := by
 have cell1 : ∀ (c : Cell T.U) (v : Value), CR T w [] c.t c.x v -> CellsR T w [] [c] [v] := fun c v h => ⟨rfl, fun j c' v' h1 h2 => by
  cases j with
  | zero => simp at h1 h2; subst h1; subst h2; exact h
  | succ j => simp at h1⟩
 intro n
 induction n with
 | zero => intro t tys h; unfold opnB at h; cases h
 | succ n ih =>
  intro t tys h m cs x hx hlen
  unfold opnB at h
  split at h <;> try (cases h; done)
  ·rename_i k hu
   split at h <;> try (cases h; done)
   rename_i k'
   simp only [Bool.and_eq_true] at h
   have := kindEq_eq h.1; subst this
   obtain ⟨a, h1, _, wa⟩ := DataW.trod_int hu hx
   subst h1
   exact ⟨[⟨.int k, a⟩], rfl, cell1 _ _ (.int k a), fun c hc => by simp at hc; subst hc; exact .int k a (by simpa [Lit.wf] using wa)⟩
  ·rename_i hu
   split at h <;> try (cases h; done)
   obtain ⟨b, h1, _⟩ := DataW.trod_bool hu hx
   subst h1
   exact ⟨[⟨.bool, b⟩], rfl, cell1 _ _ (.bool b), fun c hc => by simp at hc; subst hc; exact .bool b⟩
  ·rename_i hu
   split at h <;> try (cases h; done)
   obtain ⟨s, h1, _, hs⟩ := DataW.trod_string hu hx
   subst h1
   exact ⟨[⟨.str, s⟩], rfl, cell1 _ _ (.str s), fun c hc => by simp at hc; subst hc; exact .str s hs⟩
  ·rename_i e hu
   split at h <;> try (cases h; done)
   rename_i ty
   simp only [Bool.and_eq_true] at h
   obtain ⟨h1s, h2, h3⟩ := h
   have h1s := Nat.le_of_ble_eq_true h1s
   have h2 := Nat.eq_of_beq_eq_true h2
   rcases DataW.trod_slice hu hx with ⟨rfl, _⟩ | ⟨a, len, cap, elems, rest, q, rfl, rfl, _, _, hl, hmx, hel, hsome, _, _⟩
   ·refine ⟨[⟨.list ty, ([] : List (den T.U ty))⟩], rfl, cell1 ⟨.list ty, ([] : List (den T.U ty))⟩ _ CR.nilS, fun c hc => ?_⟩
    simp at hc; subst hc
    exact .list ty [] (Nat.zero_le _) (fun x hx => by cases hx)
   ·have key : ∀ i, ∃ y : den T.U ty, i < len -> Good T ty y /\ ∃ cs', w.cells? 0 (a.add (i * P.cellsOf e)) (P.cellsOf e) = some cs' /\ CellsR T w [] (flat T ty y) cs' := by
     intro i
     by_cases hi : i < len
     ·have h4 := hsome i hi
      rw [List.getElem?_eq_getElem (by omega)] at h4
      obtain ⟨cs', h5, h6⟩ := Option.bind_eq_some_iff.1 h4
      obtain ⟨cl, g1, g2, g3⟩ := ih e (cellsTy ct ty) h3 _ cs' _ h6 (by rw [(cells_get h5).1, h2])
      obtain ⟨y, rfl⟩ := ofCells hp g1
      exact ⟨y, fun _ => ⟨g3, cs', h5, g2⟩⟩
     ·exact ⟨dflt T ty, fun h => absurd h hi⟩
    let B : Nat -> den T.U ty := fun i => (key i).choose
    have hB : ∀ i, i < len -> Good T ty (B i) /\ ∃ cs', w.cells? 0 (a.add (i * P.cellsOf e)) (P.cellsOf e) = some cs' /\ CellsR T w [] (flat T ty (B i)) cs' := fun i => (key i).choose_spec
    have hBl : ((List.range len).map B).length = len := by simp
    have hgetB : ∀ (k : Nat) (y : den T.U ty), ((List.range len).map B)[k]? = some y -> k < len /\ y = B k := by
     intro k y hk
     obtain ⟨h1, h2⟩ := List.getElem?_eq_some_iff.1 hk
     simp at h1 h2
     exact ⟨h1, h2.symm⟩
    have hcellv : ∀ i, i < len -> ∀ (j : Nat) (c : Cell T.U), (flat T ty (B i))[j]? = some c -> ∃ v, w.cell? ((a.add (i * P.cellsOf e)).add j) = some v /\ CR T w [] c.t c.x v := by
     intro i hi j c hc
     obtain ⟨_, cs', h5, h6⟩ := hB i hi
     have hj := (List.getElem?_eq_some_iff.1 hc).1
     rw [h6.1] at hj
     have hv : cs'[j]? = some cs'[j] := List.getElem?_eq_getElem hj
     exact ⟨_, (cells_get h5).2 j _ hv, h6.2 j c _ hc hv⟩
    have hpos : 0 < szT T ty -> ∀ i, i < len -> a.spot = none /\ a.block < w.heap.size := by
     intro hp0 i hi
     have hfl : 0 < (flat T ty (B 0)).length := by rw [flat_len]; exact hp0
     obtain ⟨v, hv, _⟩ := hcellv 0 (by omega) 0 _ (List.getElem?_eq_getElem hfl)
     simp only [Nat.zero_mul, Addr.add, if_true] at hv
     have hblk := World.block_lt_of_cell? w _ hv
     refine ⟨?_, hblk⟩
     unfold World.cell? at hv
     split at hv
     ·split at hv
      ·cases hv
      ·rename_i hs; simpa using hs
     ·cases hv
    have hadd : ∀ i j, a.spot = none -> (a.add (i * P.cellsOf e)).add j = ⟨a.block, a.off + (i * szT T ty + j), none⟩ := by
     intro i j hs
     obtain ⟨ab, ao, asp⟩ := a
     have hs : asp = none := hs
     subst hs
     rw [szT_len hp, <- h2]
     unfold Addr.add
     split <;> split <;> simp_all <;> omega
    let u : Nat -> Nat -> Value := fun k j => (w.cell? ((a.add (k * P.cellsOf e)).add j)).getD undef
    refine ⟨[⟨.list ty, (List.range len).map B⟩], rfl, cell1 ⟨.list ty, (List.range len).map B⟩ _ ?_, fun c hc => ?_⟩
    ·
     ·have hz : 0 < szT T ty := by rw [szT_len hp]; omega
      have hcr : CR T w [] (.list ty) ((List.range len).map B) (.slice (some a) ((List.range len).map B).length cap) := by
       refine .list ty _ (some a) cap u (by rw [hBl]; exact hl) (fun h => by cases h) (fun hne => ?_) ?_ ?_
       ·have h0 : 0 < len := by
         rcases Nat.eq_zero_or_pos len with h | h
         ·subst h; exact absurd rfl hne
         ·exact h
        obtain ⟨h7, h8⟩ := hpos hz 0 h0
        refine ⟨?_, h8, by simp⟩
        obtain ⟨ab, ao, asp⟩ := a
        have h7 : asp = none := h7
        subst h7; rfl
       ·intro k j c hk
        cases hg : ((List.range len).map B)[k]? with
        | none => rw [hg] at hk; cases hk
        | some y =>
         rw [hg] at hk
         simp only [Option.map_some, Option.some.injEq] at hk
         obtain ⟨hkl, rfl⟩ := hgetB k y hg
         obtain ⟨v, hv, _⟩ := hcellv k hkl j c hk
         obtain ⟨h7, _⟩ := hpos hz k hkl
         show w.cell? ⟨a.block, a.off + (k * szT T ty + j), none⟩ = some (u k j)
         rw [<- hadd k j h7]
         show _ = some ((w.cell? ((a.add (k * P.cellsOf e)).add j)).getD undef)
         rw [hv]; rfl
       ·intro k j c hk
        cases hg : ((List.range len).map B)[k]? with
        | none => rw [hg] at hk; cases hk
        | some y =>
         rw [hg] at hk
         simp only [Option.map_some, Option.some.injEq] at hk
         obtain ⟨hkl, rfl⟩ := hgetB k y hg
         obtain ⟨v, hv, hr⟩ := hcellv k hkl j c hk
         show CR T w [] c.t c.x ((w.cell? ((a.add (k * P.cellsOf e)).add j)).getD undef)
         rw [hv]; exact hr
      rw [hBl] at hcr; exact hcr
    ·simp at hc; subst hc
     refine .list ty _ (by rw [hBl]; omega) fun y hy => ?_
     obtain ⟨i, hi, rfl⟩ := List.mem_map.1 hy
     exact (hB i (List.mem_range.1 hi)).1
  ·rename_i fs hu
   obtain ⟨xs, q, rfl, _, hcl, hxl, hf⟩ := DataW.trod_struct hu hx
   have go : ∀ (l : List Field) (o : Nat) (tys : List Ty), opnFields P (opnB P ct n) l o tys = true -> ∀ (i0 : Nat), (∀ (i : Nat) (f : Field), l[i]? = some f -> ∃ y, DataW.trod enc P w 0 (fun _ => true) true q f.type ((cs.drop f.offset).take (P.cellsOf f.type)) = some y) -> o + tys.length = cs.length ->
     ∃ cl : List (Cell T.U), cl.map (·.t) = tys /\ CellsR T w [] cl (cs.drop o) /\ ∀ c ∈ cl, GoodV T c.t c.x := by
    intro l
    induction l with
    | nil =>
     intro o tys h i0 _ hlen
     unfold opnFields at h
     split at h <;> try (cases h; done)
     refine ⟨[], rfl, ⟨by simp at hlen; simp; omega, fun j c v h => by simp at h⟩, fun c hc => by cases hc⟩
    | cons f r ihl =>
     intro o tys h i0 hall hlen
     unfold opnFields at h
     simp only [Bool.and_eq_true] at h
     obtain ⟨h1, h2, h3, h4⟩ := h
     have h1 := Nat.eq_of_beq_eq_true h1
     have h2 := Nat.le_of_ble_eq_true h2
     obtain ⟨y, hy⟩ := hall 0 f rfl
     rw [h1] at hy
     obtain ⟨cl1, a1, a2, a3⟩ := ih f.type _ h3 q _ y hy (by rw [List.length_take, List.length_take, List.length_drop]; omega)
     obtain ⟨cl2, b1, b2, b3⟩ := ihl (o + P.cellsOf f.type) _ h4 0 (fun i g hg => hall (i + 1) g (by simpa using hg)) (by rw [List.length_drop]; omega)
     refine ⟨cl1 ++ cl2, by rw [List.map_append, a1, b1, List.take_append_drop], ?_, fun c hc => (List.mem_append.1 hc).elim (a3 c) (b3 c)⟩
     have := a2.app b2
     rwa [<- List.drop_drop, List.take_append_drop] at this
   have := go fs.toList 0 tys h 0 (fun i f hfi => by
    have hfi' : fs[i]? = some f := by simpa using hfi
    have h5 := hf i f hfi'
    have hlt := (Array.getElem?_eq_some_iff.1 hfi').1
    rw [List.getElem?_eq_getElem (by omega)] at h5
    exact ⟨_, h5⟩) (by omega)
   simpa using this
def notSt (P : Program) (t : TypeId) : Bool := match P.underlying t with | some (.struct _) => false | _ => true
theorem openArg (hp : Packs T ct) {t : TypeId} {ty : Ty} (hty : ∀ i, ty ≠ .user i) (n : Nat) (ho : opnB P ct n t (cellsTy ct ty) = true) (hst : notSt P t = true) {r : Reach} {base : Nat} {v : Value} {d : DataW H} {p : List MemPlace} (hv : Value.okWide P w r base t v) (h : DataW.Trod enc P w 0 (fun _ => true) true t v d p) :
  ∃ x : den T.U ty, VR T w [] (fun _ => ⟨none, 0, 0, []⟩) (toAV T ty x) v /\ Good T ty x := by
 obtain ⟨m, hm⟩ := h
 have hone : v.cells = #[v] := by
  cases n with
  | zero => unfold opnB at ho; cases ho
  | succ n =>
   unfold opnB at ho
   split at ho <;> try (cases ho; done)
   ·rename_i k hu; obtain ⟨a, rfl⟩ := okWide_int hu hv; rfl
   ·rename_i hu; obtain ⟨b, rfl, _⟩ := open_bool hu hv ⟨m, hm⟩; rfl
   ·rename_i hu; obtain ⟨s, rfl⟩ := okWide_string hu hv; rfl
   ·rename_i e hu; obtain ⟨a, len, cap, rfl⟩ := okWide_slice hu hv; rfl
   ·rename_i fs hu
    unfold notSt at hst; rw [hu] at hst; cases hst
 obtain ⟨cl, h1, h2, h3⟩ := opn_sound (T := T) hp n t _ ho m _ _ hm (by rw [hone]; cases ty <;> first | rfl | exact absurd rfl (hty _))
 obtain ⟨x, rfl⟩ := ofCells hp h1
 refine ⟨x, ?_, h3⟩
 rw [hone] at h2
 have hf : flat T ty x = [⟨ty, x⟩] := flat_one T (by cases ty <;> first | rfl | exact absurd rfl (hty _)) x
 rw [hf] at h2
 have := h2.2 0 _ v rfl rfl
 cases ty <;> first | exact this | exact absurd rfl (hty _)
theorem lawRet {f : FuncId} {ps : List PT} {g : denPs T ps -> Option (denIo T (iosP ps) (denRs T [.val .bool]))} (hok : FnOk T P f ⟨ps, [.val .bool], g⟩) (hio : iosP ps = []) (hent : ∀ x : denPs T ps, entPs T ps x = []) {x : denPs T ps} {y : denIo T (iosP ps) (denRs T [.val .bool])} (hy : g x = some y) (hl : lastIo T (iosP ps) y = (true : Bool))
  {φ : Nat -> RA} {vs : List Value} (hvs : VRL T w [] φ (argsL T 0 ps x) vs) : Calls P f vs.toArray w (RetV w (.bool true)) := by
 have hio0 : (iosP ps).length = 0 := by rw [hio]; rfl
 refine (hok x y hy w [] φ vs hvs (fun b hb => by cases hb) (fun k e hk => by rw [show entPs T (FnSpec.ps ⟨ps, [.val .bool], g⟩) x = [] from hent x] at hk; simp at hk) (fun j hj => by
  have hj : j < (iosP ps).length := hj
  omega) (fun j k hj => by
  have hj : j < (iosP ps).length := hj
  omega)).mono fun e w' hR => ?_
 cases e with
 | returned v =>
  obtain ⟨F1, H1, F1', S1, φ1, as1, us, g1, g2, rfl, g4, g5, g6⟩ := hR
  have hchg : Chg [] w w' := by
   have := g1.chg
   rw [show blksN φ (iosP ps).length = [] by rw [hio0]; rfl] at this
   exact this
  refine ⟨hchg, ?_⟩
  have hlast := (rdIo_spec g4).1
  rw [hl] at hlast
  match as1, hlast, us, g2 with
  | [a], hlast, [v], g2 =>
   have hrd : ofAV T .bool a = some true := hlast
   exact (cbool_rel (φ := φ1) (ofAV_rel (t := .bool) hrd g2.1 φ1))
  | [], hlast, _, _ => cases hlast
  | _ :: _ :: _, hlast, _, _ => cases hlast
 | panicked ch => exact hR.elim
 | outgrown => exact hR.elim
end
end Go.X
namespace Go.X
open Go.RowKit Go.V
structure PSpec (T : Tab) where
 ps : List Sh
 post : List PE
 rs : List Sh
 pv : Sh
 g : denL T ps -> Option (denP T post × (denL T rs ⊕ denL T [pv]))
section
variable (T : Tab) (P : Program)
def POk (f : FuncId) (sp : PSpec T) : Prop := ∀ x y, sp.g x = some y -> ∀ (w : World) (S : List Nat) (φ : Nat -> RA), Sim T w ⟨blksN φ (cntL sp.ps), S, (List.range (cntL sp.ps)).map φ⟩ ⟨[], mkEL T id sp.ps x 0⟩ [] w S φ ->
 ∀ vs : List Value, VRL T w S φ (mkAL T id sp.ps x 0) vs -> (∀ a ∈ mkAL T id sp.ps x 0, okA (mkEL T id sp.ps x 0) a) ->
 Calls P f vs.toArray w fun e w' => match e with
  | .returned v => ∃ z, y.2 = .inl z /\ ∃ us, AnsG T sp.post sp.rs y.1 z w S φ (cntL sp.ps) w' us /\ v = packV us
  | .panicked ch => ∃ z, y.2 = .inr z /\ ∃ u, ch = [{ v := u, recovered := false }] /\ AnsG T sp.post [sp.pv] y.1 z w S φ (cntL sp.ps) w' [u]
  | .outgrown => False
def PSpec.toCall {T : Tab} (sp : PSpec T) (alt : CallSpec T) : CallSpec T where
 call := fun as H K Kp => match rdSL T H sp.ps as [] with
  | some (x, l) => match nodupN (idsO l) && rowsOk T H (idsO l) sp.post with
   | true => obind (sp.g x) fun y => match y.2 with
    | .inl z => K (packR T (mkAL T (σJ (idsO l) H.length) sp.rs z (sp.post.length + cntP sp.post))) (setIo T H (idsO l) (mkP T (σJ (idsO l) H.length) sp.post y.1 sp.post.length) ++ (mkPN T (σJ (idsO l) H.length) sp.post y.1 sp.post.length ++ mkEL T (σJ (idsO l) H.length) sp.rs z (sp.post.length + cntP sp.post)))
    | .inr z => Kp (packR T (mkAL T (σJ (idsO l) H.length) [sp.pv] z (sp.post.length + cntP sp.post))) (setIo T H (idsO l) (mkP T (σJ (idsO l) H.length) sp.post y.1 sp.post.length) ++ (mkPN T (σJ (idsO l) H.length) sp.post y.1 sp.post.length ++ mkEL T (σJ (idsO l) H.length) [sp.pv] z (sp.post.length + cntP sp.post)))
   | false => none
  | none => alt.call as H K Kp
 q := alt.q
 isq := alt.isq
 wr := fun as H => match rdSL T H sp.ps as [] with | some (_, l) => idsO l | none => alt.wr as H
def leafP (nl : Nl) (post : List PE) (rs : List Sh) (pv : Sh) (a : AV T.U) (st : St T) : Option (denP T post × (denL T rs ⊕ denL T [pv])) :=
 match rdP T (ownNilsB T nl.bn st.H) post 0 (srcP post 0) with
 | some (y, l) => match rdSL T (ownNilsB T nl.bn st.H) [pv] [a] l with
  | some (z, l') => match nodupO l' with | true => some (y, .inr z) | false => none
  | none => none
 | none => none
def leafsP (fn : Func) (nl : Nl) (post : List PE) (rs : List Sh) (pv : Sh) : Ks T (denP T post × (denL T rs ⊕ denL T [pv])) :=
 ⟨fun st => obind (leafG T P fn nl post rs st) fun y => some (y.1, .inl y.2), fun _ _ => none, fun st => obind (leafG T P fn nl post rs st) fun y => some (y.1, .inl y.2), leafP T nl post rs pv⟩
noncomputable def topP (C : Ctx T) (cuts : List (Pos × Cut)) (fn : Func) (c : Code) (nl : Nl) (ps : List Sh) (post : List PE) (rs : List Sh) (pv : Sh) (m : Nat) (x : denL T ps) : Option (denP T post × (denL T rs ⊕ denL T [pv])) :=
 evC P C fn.ntmps cuts (run P C fn.ntmps cuts c (leafsP T P fn nl post rs pv) m) c [] (leafsP T P fn nl post rs pv) ⟨argFA T (mkAL T id ps x 0) 0, mkEL T id ps x 0⟩
end
section
variable {T : Tab} {P : Program} {w w' : World} {S S' : List Nat} {φ φ' : Nat -> RA} {w0 : World} {S0 : Ow} {F : AF T} {H : List (Ent T.U)} {F' : PF}
theorem soundCall_P {f : FuncId} {sp : PSpec T} {alt : CallSpec T} (hok : POk T P f sp) (ha : SoundCall T P f alt) : SoundCall T P f (sp.toCall alt) := by
 intro R as H K Kp r hr w0 S0 F F' w S φ h vs hvs has
 simp only [PSpec.toCall] at hr
 split at hr
 ·rename_i x l hx
  split at hr
  ·rename_i hb
   simp only [Bool.and_eq_true] at hb
   obtain ⟨hn, hro⟩ := hb
   obtain ⟨y, hy, hK⟩ := obind_some hr
   obtain ⟨new, g1, g2, g3⟩ := rdSL_spec sp.ps as [] l x hx
   have hl : l = new.map some := by rw [g1.eq]; rfl
   have hids : idsO l = new := by rw [hl, idsO_map]
   rw [hids] at hn hro hK
   have hno : nodupO l = true := by
    rw [hl]
    clear hK hro hids hx g1 g2 g3 hl
    induction new with
    | nil => rfl
    | cons i r ih =>
     rw [nodupN, Bool.and_eq_true, Bool.not_eq_true'] at hn
     rw [List.map_cons, nodupO, ih hn.2, Bool.and_true, Bool.not_eq_true']
     cases hm : memO i (r.map some) with
     | false => rfl
     | true =>
      have := memO_iff.1 hm
      obtain ⟨j, hj, e⟩ := List.mem_map.1 this
      simp only [Option.some.injEq] at e; subst e
      rw [memN_iff.2 hj] at hn; exact absurd hn.1 (by simp)
   obtain ⟨q1, q2⟩ := g3 _ (places_idx hno)
   obtain ⟨hlen, hrow⟩ := rowsOk_spec hro
   have hnewlen : new.length = cntL sp.ps := g2
   obtain ⟨c0, x0, p0⟩ := S0
   have hs := (h.unpin.src (l := l) hno (fun k hk => by simp at hk) (fun i e hi he j hj => by
    rw [hl] at hi
    obtain ⟨i', hi', e'⟩ := List.mem_map.1 hi
    simp only [Option.some.injEq] at e'; subst e'
    obtain ⟨e0, h1, _, h3⟩ := g1.ents i' hi'
    rw [he] at h1; simp only [Option.some.injEq] at h1; subst h1
    exact h3 j hj))
   rw [show entsO T H (fun i => idxO i l) l = entsOf T H (fun i => idxO i l) new by rw [hl, entsO_map]] at hs
   have hs := (hs.imp q2).start
   rw [mkEL_len, <- hnewlen] at hs
   have hφc : ∀ k i, new[k]? = some i -> φO l φ k = φ i := fun k i hk => φO_at (by rw [hl, List.getElem?_map, hk]; rfl)
   have hvs' : VRL T w S (φO l φ) (mkAL T id sp.ps x 0) vs := q1.vrl (VRL.ren T (fun i hi => φO_idx (g1.ids i hi)) hvs)
   have hoks : ∀ a ∈ mkAL T id sp.ps x 0, okA (mkEL T id sp.ps x 0) a := fun a ha => okA_notEp (mkAL_noEp id _ _ _ a ha) fun i hi => by
    have hi := idsL_mem ha i hi
    rw [show idsL (mkAL T id sp.ps x 0) = _ from q1.ids] at hi
    rw [mkEL_len, <- hnewlen]
    refine renL_ids_le (fun j hj => ?_) i hi
    have := (List.getElem?_eq_some_iff.1 (idxO_spec (g1.ids j hj))).1
    rw [hl, List.length_map] at this
    rw [hl]; exact this
   have step : ∀ (rs : List Sh) (z : denL T rs) (w' : World) (us : List Value), AnsG T sp.post rs y.1 z w S (φO l φ) (cntL sp.ps) w' us ->
     ∃ S1 φ2, Sim T w0 ⟨c0, x0, p0⟩ ⟨F, setIo T H new (mkP T (σJ new H.length) sp.post y.1 sp.post.length) ++ (mkPN T (σJ new H.length) sp.post y.1 sp.post.length ++ mkEL T (σJ new H.length) rs z (sp.post.length + cntP sp.post))⟩ F' w' S1 φ2 /\ VR T w' S1 φ2 (packR T (mkAL T (σJ new H.length) rs z (sp.post.length + cntP sp.post))) (packV us) /\
      okA (setIo T H new (mkP T (σJ new H.length) sp.post y.1 sp.post.length) ++ (mkPN T (σJ new H.length) sp.post y.1 sp.post.length ++ mkEL T (σJ new H.length) rs z (sp.post.length + cntP sp.post))) (packR T (mkAL T (σJ new H.length) rs z (sp.post.length + cntP sp.post))) := by
    intro rs z w' us hans
    obtain ⟨F1, S1, φ1, k1, k2, k3⟩ := hans
    rw [<- hnewlen] at k1
    obtain ⟨φ2, m1, m2⟩ := h.join hn (fun i hi => by obtain ⟨e, a, b, _⟩ := g1.ents i hi; exact ⟨e, a, b⟩) hφc k1 (by rw [mkP_len, hlen]) (fun k i e t ys hk hp => hrow k i e t hk (mkP_row hp))
    rw [mkP_ren, List.map_append, mkPN_ren, mkEL_ren] at m1
    have hv2 : VRL T w' S1 φ2 (mkAL T (σJ new H.length) rs z (sp.post.length + cntP sp.post)) us := by
     rw [<- mkAL_ren]
     rw [mkP_len, List.length_append, mkPN_len, mkEL_len] at m2
     generalize mkAL T id rs z (sp.post.length + cntP sp.post) = as9 at k2 k3
     clear m1 k1
     induction as9 generalizing us with
     | nil => cases us <;> exact k2
     | cons a r ih =>
      match us, k2 with
      | u :: us, k2 =>
       rw [renL]
       exact ⟨m2 a u k2.1 fun i hi => k3 i (by rw [idsL]; exact List.mem_append.2 (.inl hi)), ih _ k2.2 fun i hi => k3 i (by rw [idsL]; exact List.mem_append.2 (.inr hi))⟩
    refine ⟨S1, φ2, m1, pack_rel hv2, ?_⟩
    have hlt : ∀ i ∈ idsL (mkAL T (σJ new H.length) rs z (sp.post.length + cntP sp.post)), i < (setIo T H new (mkP T (σJ new H.length) sp.post y.1 sp.post.length) ++ (mkPN T (σJ new H.length) sp.post y.1 sp.post.length ++ mkEL T (σJ new H.length) rs z (sp.post.length + cntP sp.post))).length := by
     rw [<- mkAL_ren]
     refine renL_ids_le fun j hj => ?_
     have hj := k3 j hj
     rw [List.length_append, List.length_append, setIo_len, mkPN_len, mkEL_len]
     by_cases hlt : j < new.length
     ·have hs := σJ_lo (n := H.length) hlt
      obtain ⟨e, h1, _, _⟩ := g1.ents _ (List.mem_of_getElem? hs)
      have := (List.getElem?_eq_some_iff.1 h1).1
      omega
     ·rw [σJ_hi (by omega)]; omega
    have hne : notEp (packR T (mkAL T (σJ new H.length) rs z (sp.post.length + cntP sp.post))) = true := by
     unfold packR
     split
     ·rename_i a hl; exact mkAL_noEp (σJ new H.length) rs z _ a (by rw [hl]; simp)
     ·rfl
    refine okA_notEp hne fun i hi => hlt i ?_
    unfold packR at hi
    split at hi
    ·rename_i a hl; rw [hl, idsL]; exact List.mem_append.2 (.inl hi)
    ·rw [AV.ids] at hi; exact hi
   refine (hok x y hy w S (φO l φ) (by rw [<- hnewlen]; exact hs) vs hvs' hoks).mono fun e w' hR => ?_
   cases e with
   | returned v =>
    obtain ⟨z, hz, us, hans, rfl⟩ := hR
    rw [hz] at hK
    exact ⟨_, _, hK, step _ z w' us hans⟩
   | panicked ch =>
    obtain ⟨z, hz, u, rfl, hans⟩ := hR
    rw [hz] at hK
    exact ⟨_, _, hK, u, rfl, step _ z w' [u] hans⟩
   | outgrown => exact hR.elim
  ·cases hr
 ·exact ha as H K Kp r hr w0 S0 F F' w S φ h vs hvs has
theorem detC_P {sp : PSpec T} {alt : CallSpec T} (ha : DetC alt) : DetC (sp.toCall alt) := by
 intro R as H K Kp r hr
 simp only [PSpec.toCall] at hr
 split at hr
 ·rename_i x l hx
  split at hr
  ·rename_i hb
   obtain ⟨y, hy, hK⟩ := obind_some hr
   simp only [Bool.and_eq_true] at hb
   obtain ⟨hlen, hrow⟩ := rowsOk_spec hb.2
   have hw : (PSpec.toCall sp alt).wr as H = idsO l := by simp only [PSpec.toCall, hx]
   rw [hw]
   have hl : (mkP T (σJ (idsO l) H.length) sp.post y.1 sp.post.length).length = (idsO l).length := by rw [mkP_len, hlen]
   have keeps : ∀ (N : List (Ent T.U)), Keeps T (idsO l) H (setIo T H (idsO l) (mkP T (σJ (idsO l) H.length) sp.post y.1 sp.post.length) ++ N) := by
    intro N
    refine ⟨by rw [List.length_append, setIo_len]; omega, fun e he hn => ?_, fun e ty t ys he h => ?_⟩
    ·rw [List.getElem?_append_left (by rw [setIo_len]; exact he)]
     obtain ⟨f, hf⟩ : ∃ f, (setIo T H (idsO l) (mkP T (σJ (idsO l) H.length) sp.post y.1 sp.post.length))[e]? = some f := ⟨_, List.getElem?_eq_getElem (by rw [setIo_len]; exact he)⟩
     rcases setIo_get _ _ H hl hf with ⟨k, g1, _⟩ | ⟨_, g2⟩
     ·exact absurd (List.mem_of_getElem? g1) hn
     ·rw [hf, g2]
    ·rw [List.getElem?_append_left (by rw [setIo_len]; exact he)] at h
     rcases setIo_get _ _ H hl h with ⟨k, g1, g2⟩ | ⟨_, g2⟩
     ·exact hrow k e ty t g1 (mkP_row g2)
     ·exact ⟨ys, g2⟩
   cases hz : y.2 with
   | inr z =>
    rw [hz] at hK
    exact .inr ⟨_, _, hK, keeps _, fun K' Kp' => by simp only [PSpec.toCall, hx, hb.1, hb.2, Bool.and_self, hy, obind, hz]⟩
   | inl z =>
    rw [hz] at hK
    exact .inl ⟨_, _, hK, keeps _, fun K' Kp' => by simp only [PSpec.toCall, hx, hb.1, hb.2, Bool.and_self, hy, obind, hz]⟩
  ·cases hr
 ·rename_i hx
  have hw : (PSpec.toCall sp alt).wr as H = alt.wr as H := by simp only [PSpec.toCall, hx]
  rcases ha as H K Kp r hr with ⟨a, H1, h1, h2, h3⟩ | ⟨a, H1, h1, h2, h3⟩
  ·exact .inl ⟨a, H1, h1, by rw [hw]; exact h2, fun K' Kp' => by simp only [PSpec.toCall, hx, h3]⟩
  ·exact .inr ⟨a, H1, h1, by rw [hw]; exact h2, fun K' Kp' => by simp only [PSpec.toCall, hx, h3]⟩
theorem pOk_of {C : Ctx T} {f : FuncId} {fn : Func} {c : Code} {cuts : List (Pos × Cut)} {ps rs : List Sh} {nl : Nl} {post : List PE} {pv : Sh} {g : denL T ps -> Option (denP T post × (denL T rs ⊕ denL T [pv]))} (hm : P.follows .mixedOrders = true) (hE : EnvOk T P C.E)
  (hf : P.funcs[f]? = some fn) (hb : fn.body = some c) (hs : Nat.ble ps.length fn.ntmps = true) (hpin : Nat.ble (cntL ps) C.pin = true) (hpost : Nat.beq post.length (cntL ps) = true)
  (hg : ∀ x y, g x = some y -> ∃ m, topP T P C cuts fn c nl ps post rs pv m x = some y) : POk T P f ⟨ps, post, rs, pv, g⟩ := by
 intro x y hy w S φ hsim vs hvs hoks
 obtain ⟨N, hN⟩ := hg x y hy
 have hpost := Nat.eq_of_beq_eq_true hpost
 have hall : (mkAL T id ps x 0).length = ps.length := by
  have : ∀ (l : List Sh) (x : denL T l) (k : Nat), (mkAL T id l x k).length = l.length := by
   intro l
   induction l with
   | nil => intro x k; rfl
   | cons s r ih => intro x k; exact congrArg (· + 1) (ih x.2 _)
  exact this ps x 0
 have hlen : vs.length = ps.length := by rw [<- hvs.len T]; exact hall
 have hsz : vs.length <= fn.ntmps := by rw [hlen]; exact Nat.le_of_ble_eq_true hs
 have hfr : Fr fn.ntmps [] (argF vs 0) { tmps := vs.toArray ++ Array.replicate (fn.ntmps - vs.toArray.size) undef, defers := [] } := by
  refine ⟨by simp; omega, rfl, fun i v hv => ?_⟩
  obtain ⟨_, h2⟩ := argF_get vs 0 i v hv
  simp only [Nat.sub_zero] at h2
  have hi := (List.getElem?_eq_some_iff.1 h2).1
  refine ⟨?_, by omega⟩
  rw [Array.getD_eq_getD_getElem?, Array.getElem?_append_left (by simpa using hi)]
  simp [h2]
 have hstart := hsim.slots hvs hoks
 have hpin' : ((List.range (cntL ps)).map φ).length <= C.pin := by simpa using Nat.le_of_ble_eq_true hpin
 have key : ∀ st y', leafG T P fn nl post rs st = some y' -> ∀ F1 w1, Stands T w ⟨blksN φ (cntL ps), S, (List.range (cntL ps)).map φ⟩ st F1 w1 -> ∀ a, Fr fn.ntmps [] F1 a -> ∃ v, (results fn a.tmps).run P w1 = .ok v w1 /\
   ∃ us, AnsG T post rs y'.1 y'.2 w S φ (cntL ps) w1 us /\ v = packV us := by
  intro st0 y' hst F1 w1 hsm0 a ha
  exact leafG_ok hpost hst hsm0 ha
 have hKs : KsOk (bodyPost P fn fun e w' => match e with
   | .returned v => ∃ z, y.2 = .inl z /\ ∃ us, AnsG T post rs y.1 z w S φ (cntL ps) w' us /\ v = packV us
   | .panicked ch => ∃ z, y.2 = .inr z /\ ∃ u, ch = [{ v := u, recovered := false }] /\ AnsG T post [pv] y.1 z w S φ (cntL ps) w' [u]
   | .outgrown => False) fn.ntmps [] w ⟨blksN φ (cntL ps), S, (List.range (cntL ps)).map φ⟩ y (leafsP T P fn nl post rs pv) := by
  refine ⟨?_, fun i st h => (by cases h), ?_, fun a st h => ?_⟩
  ·intro st hst F1 w1 hs1 a ha
   obtain ⟨y', hy', he⟩ := obind_some hst
   simp only [Option.some.injEq] at he
   obtain ⟨v, h1, us, h2, h3⟩ := key st y' hy' F1 w1 hs1 a ha
   subst he
   exact ⟨ha.defers, v, h1, _, rfl, us, h2, h3⟩
  ·intro st hst F1 w1 hs1 a ha
   obtain ⟨y', hy', he⟩ := obind_some hst
   simp only [Option.some.injEq] at he
   obtain ⟨v, h1, us, h2, h3⟩ := key st y' hy' F1 w1 hs1 a ha
   subst he
   exact ⟨ha.defers, v, h1, _, rfl, us, h2, h3⟩
  ·intro F1 w1 S1 φ1 u hsm hvr hok act ha
   have h : leafP T nl post rs pv a st = some y := h
   obtain ⟨φ1, hsm, hvr, _⟩ := ownNilsB_vr nl.bn hsm (as := [a]) (us := [u]) ⟨hvr, trivial⟩ (fun i hi => hok.1 i (by simpa [idsL] using hi))
   unfold leafP at h
   split at h <;> try (cases h; done)
   rename_i y1 l1 h1
   split at h <;> try (cases h; done)
   rename_i z l2 h2
   split at h <;> try (cases h; done)
   rename_i hn
   simp only [Option.some.injEq] at h; subst h
   exact ⟨ha.defers, z, rfl, u, rfl, ans_of hpost h1 h2 hn hsm hvr⟩
 exact calls_of_wp hf hb (evC_sound hm hpin' hE c [] _ _ _ _ w hN hKs (JOk.run hm hpin' hE hKs N) ⟨S, φ, hstart⟩ _ hfr)
theorem pCall_ok {f : FuncId} {sp : PSpec T} {alt : CallSpec T} (h : POk T P f sp) (ha : SoundCall T P f alt /\ SoundQ T P f alt /\ DetC alt) : SoundCall T P f (sp.toCall alt) /\ SoundQ T P f (sp.toCall alt) /\ DetC (sp.toCall alt) := ⟨soundCall_P h ha.1, ha.2.1, detC_P ha.2.2⟩
end
end Go.X
namespace Go.X
open Go.RowKit Go.V
section
variable {T : Tab} {P : Program} {w w' : World} {S S' : List Nat} {φ φ' : Nat -> RA} {w0 : World} {S0 : Ow} {F : AF T} {H : List (Ent T.U)} {F' : PF}
theorem call_frame {ps : List Sh} {post : List PE} {as : List (AV T.U)} {x : denL T ps} {l : Src} (hx : rdSL T H ps as [] = some (x, l)) (hn : nodupN (idsO l) = true) (hro : rowsOk T H (idsO l) post = true) (h : Sim T w0 S0 ⟨F, H⟩ F' w S φ) {vs : List Value} (hvs : VRL T w S φ as vs) :
  ∃ φ', Sim T w ⟨blksN φ' (cntL ps), S, (List.range (cntL ps)).map φ'⟩ ⟨[], mkEL T id ps x 0⟩ [] w S φ' /\ VRL T w S φ' (mkAL T id ps x 0) vs /\ (∀ a ∈ mkAL T id ps x 0, okA (mkEL T id ps x 0) a) /\
   ∀ (y1 : denP T post) (rs : List Sh) (z : denL T rs) (w' : World) (us : List Value), AnsG T post rs y1 z w S φ' (cntL ps) w' us ->
    ∃ S1 φ2, Sim T w0 S0 ⟨F, setIo T H (idsO l) (mkP T (σJ (idsO l) H.length) post y1 post.length) ++ (mkPN T (σJ (idsO l) H.length) post y1 post.length ++ mkEL T (σJ (idsO l) H.length) rs z (post.length + cntP post))⟩ F' w' S1 φ2 /\ VR T w' S1 φ2 (packR T (mkAL T (σJ (idsO l) H.length) rs z (post.length + cntP post))) (packV us) /\
     okA (setIo T H (idsO l) (mkP T (σJ (idsO l) H.length) post y1 post.length) ++ (mkPN T (σJ (idsO l) H.length) post y1 post.length ++ mkEL T (σJ (idsO l) H.length) rs z (post.length + cntP post))) (packR T (mkAL T (σJ (idsO l) H.length) rs z (post.length + cntP post))) := by
 obtain ⟨new, g1, g2, g3⟩ := rdSL_spec ps as [] l x hx
 have hl : l = new.map some := by rw [g1.eq]; rfl
 have hids : idsO l = new := by rw [hl, idsO_map]
 rw [hids] at hn hro ⊢
 have hno : nodupO l = true := by
  rw [hl]
  clear hro hids hx g1 g2 g3 hl
  induction new with
  | nil => rfl
  | cons i r ih =>
   rw [nodupN, Bool.and_eq_true, Bool.not_eq_true'] at hn
   rw [List.map_cons, nodupO, ih hn.2, Bool.and_true, Bool.not_eq_true']
   cases hm : memO i (r.map some) with
   | false => rfl
   | true =>
    have := memO_iff.1 hm
    obtain ⟨j, hj, e⟩ := List.mem_map.1 this
    simp only [Option.some.injEq] at e; subst e
    rw [memN_iff.2 hj] at hn; exact absurd hn.1 (by simp)
 obtain ⟨q1, q2⟩ := g3 _ (places_idx hno)
 obtain ⟨hlen, hrow⟩ := rowsOk_spec hro
 have hnewlen : new.length = cntL ps := g2
 obtain ⟨c0, x0, p0⟩ := S0
 have hs := (h.unpin.src (l := l) hno (fun k hk => by simp at hk) (fun i e hi he j hj => by
  rw [hl] at hi
  obtain ⟨i', hi', e'⟩ := List.mem_map.1 hi
  simp only [Option.some.injEq] at e'; subst e'
  obtain ⟨e0, h1, _, h3⟩ := g1.ents i' hi'
  rw [he] at h1; simp only [Option.some.injEq] at h1; subst h1
  exact h3 j hj))
 rw [show entsO T H (fun i => idxO i l) l = entsOf T H (fun i => idxO i l) new by rw [hl, entsO_map]] at hs
 have hs := (hs.imp q2).start
 rw [mkEL_len, <- hnewlen] at hs
 have hφc : ∀ k i, new[k]? = some i -> φO l φ k = φ i := fun k i hk => φO_at (by rw [hl, List.getElem?_map, hk]; rfl)
 have hvs' : VRL T w S (φO l φ) (mkAL T id ps x 0) vs := q1.vrl (VRL.ren T (fun i hi => φO_idx (g1.ids i hi)) hvs)
 have hoks : ∀ a ∈ mkAL T id ps x 0, okA (mkEL T id ps x 0) a := fun a ha => okA_notEp (mkAL_noEp id _ _ _ a ha) fun i hi => by
  have hi := idsL_mem ha i hi
  rw [show idsL (mkAL T id ps x 0) = _ from q1.ids] at hi
  rw [mkEL_len, <- hnewlen]
  refine renL_ids_le (fun j hj => ?_) i hi
  have := (List.getElem?_eq_some_iff.1 (idxO_spec (g1.ids j hj))).1
  rw [hl, List.length_map] at this
  rw [hl]; exact this
 refine ⟨φO l φ, by rw [<- hnewlen]; exact hs, hvs', hoks, ?_⟩
 intro y1 rs z w' us hans
 obtain ⟨F1, S1, φ1, k1, k2, k3⟩ := hans
 rw [<- hnewlen] at k1
 obtain ⟨φ2, m1, m2⟩ := h.join hn (fun i hi => by obtain ⟨e, a, b, _⟩ := g1.ents i hi; exact ⟨e, a, b⟩) hφc k1 (by rw [mkP_len, hlen]) (fun k i e t ys hk hp => hrow k i e t hk (mkP_row hp))
 rw [mkP_ren, List.map_append, mkPN_ren, mkEL_ren] at m1
 have hv2 : VRL T w' S1 φ2 (mkAL T (σJ new H.length) rs z (post.length + cntP post)) us := by
  rw [<- mkAL_ren]
  rw [mkP_len, List.length_append, mkPN_len, mkEL_len] at m2
  generalize mkAL T id rs z (post.length + cntP post) = as9 at k2 k3
  clear m1 k1
  induction as9 generalizing us with
  | nil => cases us <;> exact k2
  | cons a r ih =>
   match us, k2 with
   | u :: us, k2 =>
    rw [renL]
    exact ⟨m2 a u k2.1 fun i hi => k3 i (by rw [idsL]; exact List.mem_append.2 (.inl hi)), ih _ k2.2 fun i hi => k3 i (by rw [idsL]; exact List.mem_append.2 (.inr hi))⟩
 refine ⟨S1, φ2, m1, pack_rel hv2, ?_⟩
 have hlt : ∀ i ∈ idsL (mkAL T (σJ new H.length) rs z (post.length + cntP post)), i < (setIo T H new (mkP T (σJ new H.length) post y1 post.length) ++ (mkPN T (σJ new H.length) post y1 post.length ++ mkEL T (σJ new H.length) rs z (post.length + cntP post))).length := by
  rw [<- mkAL_ren]
  refine renL_ids_le fun j hj => ?_
  have hj := k3 j hj
  rw [List.length_append, List.length_append, setIo_len, mkPN_len, mkEL_len]
  by_cases hlt : j < new.length
  ·have hs := σJ_lo (n := H.length) hlt
   obtain ⟨e, h1, _, _⟩ := g1.ents _ (List.mem_of_getElem? hs)
   have := (List.getElem?_eq_some_iff.1 h1).1
   omega
  ·rw [σJ_hi (by omega)]; omega
 have hne : notEp (packR T (mkAL T (σJ new H.length) rs z (post.length + cntP post))) = true := by
  unfold packR
  split
  ·rename_i a hl; exact mkAL_noEp (σJ new H.length) rs z _ a (by rw [hl]; simp)
  ·rfl
 refine okA_notEp hne fun i hi => hlt i ?_
 unfold packR at hi
 split at hi
 ·rename_i a hl; rw [hl, idsL]; exact List.mem_append.2 (.inl hi)
 ·rw [AV.ids] at hi; exact hi
theorem Sim.fewer {c x : List Nat} {p q : List RA} {st : St T} (h : Sim T w0 ⟨c, x, p⟩ st F' w S φ) (hq : ∀ (k : Nat) (r : RA), q[k]? = some r -> ∃ r', p[k]? = some r' /\ RSame r' r) : Sim T w0 ⟨c, x, q⟩ st F' w S φ :=
 ⟨h.fr, h.ids, h.chg, h.own, h.ex, h.lives, fun k r hk => (hq k r hk).elim fun r' q => ⟨(h.pins k r' q.1).1.trans q.2, (h.pins k r' q.1).2⟩, h.ents, h.eids, h.apart⟩
theorem Sim.pinned {c x : List Nat} {p : List RA} {st : St T} (h : Sim T w0 ⟨c, x, p⟩ st F' w S φ) {m : Nat} (hm : m <= st.H.length) : Sim T w0 ⟨c, x, (List.range m).map φ⟩ st F' w S φ :=
 ⟨h.fr, h.ids, h.chg, h.own, h.ex, h.lives, fun k r hk => by
  have hlt := (List.getElem?_eq_some_iff.1 hk).1
  simp at hlt
  simp [hlt] at hk
  exact ⟨.of hk, by omega⟩, h.ents, h.eids, h.apart⟩
end
structure DSpec (T : Tab) where
 ps : List Sh
 rv : Sh
 post : List PE
 g : denL T (ps ++ [rv]) -> Option (denP T post)
def modeOf : Value -> FrameMode
 | .nilIface => .returning
 | v => .panicking [{ v := v, recovered := false }]
def DOk (T : Tab) (P : Program) (f : FuncId) (sp : DSpec T) : Prop :=
 ∀ x y, sp.g x = some y -> ∀ (w : World) (S : List Nat) (φ : Nat -> RA), Sim T w ⟨blksN φ (cntL (sp.ps ++ [sp.rv])), S, (List.range (cntL (sp.ps ++ [sp.rv]))).map φ⟩ ⟨[], mkEL T id (sp.ps ++ [sp.rv]) x 0⟩ [] w S φ ->
 ∀ (vs : List Value) (v : Value), VRL T w S φ (mkAL T id (sp.ps ++ [sp.rv]) x 0) (vs ++ [v]) -> (∀ a ∈ mkAL T id (sp.ps ++ [sp.rv]) x 0, okA (mkEL T id (sp.ps ++ [sp.rv]) x 0) a) ->
 CallsD P f vs.toArray (modeOf v) w fun e u' w' => (∃ v0, e = .returned v0) /\ u' = (recU (modeOf v)).2 /\ AnsG T sp.post [] y () w S φ (cntL (sp.ps ++ [sp.rv])) w' []
section
variable {T : Tab} (P : Program)
def leafDf (post : List PE) (st : St T) : Option (denP T post) := match rdP T st.H post 0 (srcP post 0) with | some (y, l) => (match nodupO l with | true => some y | false => none) | none => none
def leafsDf (post : List PE) : Ks T (denP T post) := ⟨leafDf post, fun _ _ => none, leafDf post, fun _ _ => none⟩
noncomputable def topDf (C : Ctx T) (fn : Func) (c : Code) (ps : List Sh) (rv : Sh) (post : List PE) (x : denL T (ps ++ [rv])) : Option (denP T post) :=
 match c with
 | .seq (.region _ ops false) rest => match recOp ops, (mkAL T id (ps ++ [rv]) x 0)[ps.length]? with
  | some d, some a => (match okDst fn.ntmps (some d) with
   | true => regG (fun o st K => stepA P C o st K fun _ _ => none) ops fn.ntmps (evC P C fn.ntmps [] (fun _ _ => none) rest [] (leafsDf post)) (ops.toList.drop 1) ⟨(d, a) :: argFA T ((mkAL T id (ps ++ [rv]) x 0).take ps.length) 0, mkEL T id (ps ++ [rv]) x 0⟩
   | false => none)
  | _, _ => none
 | _ => none
def callDf {R : Type} (sp : DSpec T) (as : List (AV T.U)) (H : List (Ent T.U)) (K : List (Ent T.U) -> Option R) : Option R :=
 match rdSL T H (sp.ps ++ [sp.rv]) as [] with
 | some (x, l) => match nodupN (idsO l) && rowsOk T H (idsO l) sp.post with
  | true => obind (sp.g x) fun y => K (setIo T H (idsO l) (mkP T (σJ (idsO l) H.length) sp.post y sp.post.length) ++ (mkPN T (σJ (idsO l) H.length) sp.post y sp.post.length ++ mkEL T (σJ (idsO l) H.length) [] () (sp.post.length + cntP sp.post)))
  | false => none
 | none => none
structure DefP (T : Tab) where
 depth : Nat
 sl : Nat
 live : List Nat
 pin : Nat
 g : FuncId
 cp : List (Nat × Nat)
 dr : DSpec T
 dp : DSpec T
def capsOf {U : Nat -> Type} : List (Nat × Nat) -> List (AV U)
 | [] => []
 | (i, o) :: r => .ptr i o :: capsOf r
def capsEq {U : Nat -> Type} : List (Nat × Nat) -> List (AV U) -> Bool
 | [], [] => true
 | (i, o) :: r, .ptr j p :: s => Nat.beq i j && (Nat.beq o p && capsEq r s)
 | _, _ => false
def isIfc {U : Nat -> Type} : AV U -> Bool | .ifc _ _ => true | _ => false
def leafsD (fn : Func) (nl : Nl) (post : List PE) (rs : List Sh) (D : DefP T) : Ks T (denP T post × denL T rs) :=
 let ret := fun (st : St T) => callDf D.dr (capsOf D.cp ++ [.raw .nilIface]) st.H fun H1 => leafG T P fn nl post rs ⟨st.F, H1⟩
 ⟨ret, fun _ _ => none, ret, fun a st => match isIfc a with | true => callDf D.dp (capsOf D.cp ++ [a]) st.H fun H1 => leafG T P fn nl post rs ⟨st.F, H1⟩ | false => none⟩
def notDef : Op -> Bool | .defer _ => false | _ => true
def defSl (o : Oper) : Option Nat := match o.op with | .defer c => (match c.callee, c.args.toList, o.dst, o.guard with | .value (.tmp t), [], none, none => some t | _, _, _, _ => none) | _ => none
def defOps (ops : Array Oper) (sl : Nat) : Bool := (ops.toList.dropLast.all fun o => notDef o.op) && (match ops.toList.getLast? with | some o => (match defSl o with | some t => Nat.beq t sl | none => false) | none => false)
def stepDf {R : Type} (C : Ctx T) (Kp : AV T.U -> St T -> Option R) (o : Oper) (st : St T) (K : St T -> Option R) : Option R := match notDef o.op with | true => stepA P C o st K Kp | false => (match defSl o with | some t => (match st.F.get T t with | some (.fn _ [] _) => K st | _ => none) | none => none)
def Ctx.at (C : Ctx T) (m : Nat) : Ctx T := ⟨C.ty, C.E, m, C.ms, C.lay, C.dr, C.pm⟩
noncomputable def startB (C : Ctx T) (cuts : List (Pos × Cut)) (fn : Func) (B : Code) (nl : Nl) (post : List PE) (rs : List Sh) (D : DefP T) (m : Nat) (st : St T) : Option (denP T post × denL T rs) :=
 match trim T C.pin D.live st with
 | some st2 => match st2.F.get T D.sl with
  | some (.fn (.func g) [] caps) => match Nat.beq g D.g && (enterable P g && (capsEq D.cp caps && ((D.cp.all fun p => Nat.blt p.1 D.pin) && (Nat.ble C.pin D.pin && Nat.ble D.pin st2.H.length)))) with
   | true => evC P (C.at D.pin) fn.ntmps cuts (run P (C.at D.pin) fn.ntmps cuts B (leafsD P fn nl post rs D) m) B [] (leafsD P fn nl post rs D) st2
   | false => none
  | _ => none
 | none => none
noncomputable def deferK (C : Ctx T) (cuts : List (Pos × Cut)) (fn : Func) (nl : Nl) (post : List PE) (rs : List Sh) (D : DefP T) (m : Nat) (c : Code) (st : St T) : Option (denP T post × denL T rs) :=
 match c with
 | .seq (.region _ ops false) B => match defOps ops D.sl with
  | true => regG (stepDf P C fun _ _ => none) ops fn.ntmps (startB P C cuts fn B nl post rs D m) ops.toList st
  | false => none
 | _ => none
noncomputable def evS {R : Type} (C : Ctx T) (n : Nat) (K : Ks T R) (K2 : Code -> St T -> Option R) : Nat -> Code -> St T -> Option R
 | 0, c, st => K2 c st
 | k + 1, .seq x y, st => evC P C n [] (fun _ _ => none) x [] (K.behind fun st => evS C n K K2 k y st) st
 | _ + 1, _, _ => none
noncomputable def topD (C : Ctx T) (cuts : List (Pos × Cut)) (fn : Func) (c : Code) (nl : Nl) (ps : List Sh) (post : List PE) (rs : List Sh) (D : DefP T) (m : Nat) (x : denL T ps) : Option (denP T post × denL T rs) :=
 evS P C fn.ntmps (leafsG T P fn nl post rs) (deferK P C cuts fn nl post rs D m) D.depth c ⟨argFA T (mkAL T id ps x 0) 0, mkEL T id ps x 0⟩
end
section
variable {T : Tab} {P : Program} {w w' : World} {S S' : List Nat} {φ φ' : Nat -> RA} {w0 : World} {S0 : Ow} {F : AF T} {H : List (Ent T.U)} {F' : PF}
theorem VRL.snoc_inv {as : List (AV T.U)} {a : AV T.U} : ∀ {vs : List Value} {v : Value}, VRL T w S φ (as ++ [a]) (vs ++ [v]) -> VRL T w S φ as vs /\ VR T w S φ a v := by
 induction as with
 | nil =>
  intro vs v h
  match vs, h with
  | [], h => exact ⟨trivial, h.1⟩
  | u :: vs, h => exact absurd (h.2.len T) (by simp)
 | cons b r ih =>
  intro vs v h
  match vs, h with
  | [], h => exact absurd (VRL.len T h) (by simp)
  | u :: vs, h => obtain ⟨h1, h2⟩ := ih h.2; exact ⟨⟨h.1, h1⟩, h2⟩
theorem mkAL_len (σ : Nat -> Nat) : ∀ (l : List Sh) (x : denL T l) (k : Nat), (mkAL T σ l x k).length = l.length
 | [], x, k => rfl
 | s :: r, x, k => congrArg (· + 1) (mkAL_len σ r x.2 _)
theorem ret_nil {fn : Func} (hres : fn.results.isEmpty = true) (a : Array Value) (w : World) : (results fn a).run P w = .ok (.tuple #[]) w := by
 have : fn.results = #[] := by simpa using hres
 unfold results
 rw [this, Array.mapM_eq_mapM_toList]
 simp [Sem.run_bind, Sem.run_map]
theorem dOk_of {C : Ctx T} {f : FuncId} {fn : Func} {c : Code} {ps : List Sh} {rv : Sh} {post : List PE} {g : denL T (ps ++ [rv]) -> Option (denP T post)} (hm : P.follows .mixedOrders = true) (hE : EnvOk T P C.E)
  (hf : P.funcs[f]? = some fn) (hb : fn.body = some c) (hs : Nat.ble ps.length fn.ntmps = true) (hpin : Nat.ble (cntL (ps ++ [rv])) C.pin = true) (hpost : Nat.beq post.length (cntL (ps ++ [rv])) = true) (hres : fn.results.isEmpty = true)
  (hg : ∀ x y, g x = some y -> topDf P C fn c ps rv post x = some y) : DOk T P f ⟨ps, rv, post, g⟩ := by
 intro x y hy w S φ hsim vs v hvs hoks
 have hN := hg x y hy
 have hpost := Nat.eq_of_beq_eq_true hpost
 have hall : (mkAL T id (ps ++ [rv]) x 0).length = ps.length + 1 := by rw [mkAL_len]; simp
 unfold topDf at hN
 split at hN <;> try (cases hN; done)
 rename_i rid ops rest
 split at hN <;> try (cases hN; done)
 rename_i d a hd ha
 split at hN <;> try (cases hN; done)
 rename_i hdn
 simp only at hvs hoks hsim
 have hsplit : mkAL T id (ps ++ [rv]) x 0 = (mkAL T id (ps ++ [rv]) x 0).take ps.length ++ [a] := by
  conv => lhs; rw [<- List.take_append_drop ps.length (mkAL T id (ps ++ [rv]) x 0)]
  congr 1
  obtain ⟨hlt, hg⟩ := List.getElem?_eq_some_iff.1 ha
  rw [List.drop_eq_getElem_cons hlt, hg, List.drop_eq_nil_of_le (by omega)]
 rw [hsplit] at hvs
 obtain ⟨hv1, hv2⟩ := hvs.snoc_inv
 have hlen : vs.length = ps.length := by rw [<- hv1.len T, List.length_take, hall]; omega
 have hsz : vs.length <= fn.ntmps := by rw [hlen]; exact Nat.le_of_ble_eq_true hs
 have hfr : Fr fn.ntmps [] (argF vs 0) { tmps := vs.toArray ++ Array.replicate (fn.ntmps - vs.toArray.size) undef, defers := [] } := by
  refine ⟨by simp; omega, rfl, fun i v hv => ?_⟩
  obtain ⟨_, h2⟩ := argF_get vs 0 i v hv
  simp only [Nat.sub_zero] at h2
  have hi := (List.getElem?_eq_some_iff.1 h2).1
  refine ⟨?_, by omega⟩
  rw [Array.getD_eq_getD_getElem?, Array.getElem?_append_left (by simpa using hi)]
  simp [h2]
 have hstart := hsim.slots hv1 (fun b hb => hoks b (List.mem_of_mem_take hb))
 have hpin' : ((List.range (cntL (ps ++ [rv]))).map φ).length <= C.pin := by simpa using Nat.le_of_ble_eq_true hpin
 have hrec : recU (modeOf v) = (v, (recU (modeOf v)).2) := by
  unfold modeOf
  split
  ·rfl
  ·rfl
 refine callsD_recF hf hb rfl hfr d hd hdn hrec fun K hK => ?_
 have hok : okA (mkEL T id (ps ++ [rv]) x 0) a := hoks a (by rw [hsplit]; simp)
 have hst2 : Sim T w ⟨blksN φ (cntL (ps ++ [rv])), S, (List.range (cntL (ps ++ [rv]))).map φ⟩ ⟨(d, a) :: argFA T ((mkAL T id (ps ++ [rv]) x 0).take ps.length) 0, mkEL T id (ps ++ [rv]) x 0⟩ (upd (argF vs 0) (some d) v) w S φ := hstart.slot (dst := some d) hv2 hok
 have hKs : KsOk (bodyPost P fn fun e w' => (∃ v0, e = .returned v0) /\ (recU (modeOf v)).2 = (recU (modeOf v)).2 /\ AnsG T post [] y () w S φ (cntL (ps ++ [rv])) w' []) fn.ntmps [] w ⟨blksN φ (cntL (ps ++ [rv])), S, (List.range (cntL (ps ++ [rv]))).map φ⟩ y (leafsDf post) := by
  have key : ∀ st, leafDf post st = some y -> ∀ F1 w1, Stands T w ⟨blksN φ (cntL (ps ++ [rv])), S, (List.range (cntL (ps ++ [rv]))).map φ⟩ st F1 w1 -> AnsG T post [] y () w S φ (cntL (ps ++ [rv])) w1 [] := by
   intro st hst F1 w1 hs1
   obtain ⟨S1, φ1, hs1⟩ := hs1
   unfold leafDf at hst
   split at hst <;> try (cases hst; done)
   rename_i y1 l1 h1
   split at hst <;> try (cases hst; done)
   rename_i hn
   simp only [Option.some.injEq] at hst; subst hst
   exact ans_of hpost h1 (rs := []) (as := []) (z := ()) (l2 := l1) rfl hn hs1 trivial
  refine ⟨?_, fun i st h => (by cases h), ?_, fun a st h => (by cases h)⟩
  ·intro st hst F1 w1 hs1 a ha
   exact ⟨ha.defers, _, ret_nil hres _ _, ⟨_, rfl⟩, rfl, key st hst F1 w1 hs1⟩
  ·intro st hst F1 w1 hs1 a ha
   exact ⟨ha.defers, _, ret_nil hres _ _, ⟨_, rfl⟩, rfl, key st hst F1 w1 hs1⟩
 refine reg_gen (w0 := w) (S0 := ⟨blksN φ (cntL (ps ++ [rv])), S, (List.range (cntL (ps ++ [rv]))).map φ⟩) (r := y) (stp := fun o st K => stepA P C o st K fun _ _ => none)
  (K := evC P C fn.ntmps [] (fun _ _ => none) rest [] (leafsDf post))
  (fun k F' w2 => WR P ops (Exit.then K (bodyPost P fn fun e w' => (∃ v0, e = .returned v0) /\ (recU (modeOf v)).2 = (recU (modeOf v)).2 /\ AnsG T post [] y () w S φ (cntL (ps ++ [rv])) w' [])) k fn.ntmps [] F' w2) ?_ ?_ ?_ (ops.toList.drop 1) 1 rfl _ _ _ _ S φ hN hst2
 ·intro k o F1 H1 F1' w1 S1 φ1 K hd hs h HK
  exact step_sound hE hd hs h (fun st hst F1 w1 ⟨S1, φ1, h1⟩ => HK st hst F1 w1 S1 φ1 h1) fun a st h => (by cases h)
 ·intro k dst F' w hp K
  exact WR.pass1 hp K
 ·intro k st F1' w1 S1 φ1 hk hst h
  refine .fin (Nat.ble_eq_true_of_le hk) fun a ha => hK a w1 ?_
  exact evC_sound hm hpin' hE rest [] _ st _ F1' w1 hst hKs (JOk.none _ _ _) ⟨S1, φ1, h⟩ a ha
theorem evS_sound {R : Type} {r : R} {C : Ctx T} {n : Nat} {ds : List Deferred} (hm : P.follows .mixedOrders = true) (hp : S0.pin.length <= C.pin) (hE : EnvOk T P C.E) {K : Ks T R} {K2 : Code -> St T -> Option R} : ∀ (k : Nat) (c : Code) (st : St T) (Q : Exit -> Act -> World -> Prop) (F' : PF) (w : World),
  evS P C n K K2 k c st = some r -> KsOk Q n ds w0 S0 r K -> (∀ c st, K2 c st = some r -> ∀ F1 w1, Stands T w0 S0 st F1 w1 -> ∀ a, Fr n ds F1 a -> c.wp P Q a w1) -> Stands T w0 S0 st F' w -> CW P c Q n ds F' w
 | 0, c, st, Q, F', w, h, hK, h2, hs => fun a ha => h2 c st h F' w hs a ha
 | k + 1, c, st, Q, F', w, h, hK, h2, hs => by
  cases c with
  | seq x y =>
   have h : evC P C n [] (fun _ _ => none) x [] (K.behind fun st => evS P C n K K2 k y st) st = some r := h
   have := evC_sound hm hp hE x _ _ st _ F' w h (hK.behind (X := y.wp P Q) fun st1 h1 F1 w1 hs1 a ha => evS_sound hm hp hE k y st1 Q F1 w1 h1 hK h2 hs1 a ha) (JOk.none _ _ _) hs
   exact fun a ha => wp_seq (this a ha)
  | _ => cases h
theorem capsEq_eq : ∀ {cp : List (Nat × Nat)} {caps : List (AV T.U)}, capsEq cp caps = true -> caps = capsOf cp
 | [], [], _ => rfl
 | [], _ :: _, h => by cases h
 | (i, o) :: r, [], h => by cases h
 | (i, o) :: r, a :: s, h => by
  cases a <;> try (cases h; done)
  simp only [capsEq, Bool.and_eq_true] at h
  rw [<- Nat.eq_of_beq_eq_true h.1, <- Nat.eq_of_beq_eq_true h.2.1, capsEq_eq h.2.2]; rfl
theorem capsOf_vr : ∀ {cp : List (Nat × Nat)} {vs : List Value} {m : Nat}, (cp.all fun p => Nat.blt p.1 m) = true -> VRL T w S φ (capsOf cp) vs -> (∀ k, k < m -> RSame (φ' k) (φ k)) -> VRL T w' S' φ' (capsOf cp) vs
 | [], [], _, _, _, _ => trivial
 | [], _ :: _, _, _, h, _ => h.elim
 | _ :: _, [], _, _, h, _ => h.elim
 | (i, o) :: r, v :: s, m, hb, h, hφ => by
  rw [List.all_cons, Bool.and_eq_true] at hb
  obtain ⟨⟨g, h1, h2⟩, h3⟩ := h
  have hi : i < m := by have := hb.1; simpa [Nat.blt_eq] using this
  exact ⟨⟨g, (hφ i hi).1.trans h1, h2⟩, capsOf_vr hb.2 h3 hφ⟩
theorem defSl_spec {o : Oper} {sl : Nat} (h : defSl o = some sl) : ∃ c, o.op = .defer c /\ c.callee = .value (.tmp sl) /\ c.args = #[] /\ o.dst = none /\ o.guard = none := by
 unfold defSl at h
 split at h
 ·rename_i c hop
  split at h
  ·rename_i h1 h2 h3 h4
   simp only [Option.some.injEq] at h; subst h
   exact ⟨c, hop, h1, by simpa using h2, h3, h4⟩
  ·cases h
 ·cases h
theorem callDf_sound {R : Type} {r : R} {sp : DSpec T} {g : FuncId} (hok : DOk T P g sp) {as : List (AV T.U)} {a : AV T.U} {K : List (Ent T.U) -> Option R} (h : callDf sp (as ++ [a]) H K = some r) (hs : Sim T w0 S0 ⟨F, H⟩ F' w S φ) {vs : List Value} {v : Value} (hvs : VRL T w S φ as vs) (hv : VR T w S φ a v) :
  ∃ H1, K H1 = some r /\ CallsD P g vs.toArray (modeOf v) w fun e u' w' => (∃ v0, e = .returned v0) /\ u' = (recU (modeOf v)).2 /\ Stands T w0 S0 ⟨F, H1⟩ F' w' := by
 unfold callDf at h
 split at h <;> try (cases h; done)
 rename_i x l hx
 split at h <;> try (cases h; done)
 rename_i hb
 rw [Bool.and_eq_true] at hb
 obtain ⟨y, hy, hK⟩ := obind_some h
 obtain ⟨φ', k1, k2, k3, k4⟩ := call_frame hx hb.1 hb.2 hs (hvs.append (show VRL T w S φ [a] [v] from ⟨hv, trivial⟩))
 refine ⟨_, hK, (hok x y hy w S φ' k1 vs v k2 k3).mono fun e u' w' hR => ?_⟩
 obtain ⟨h1, h2, h3⟩ := hR
 obtain ⟨S1, φ2, h4, _⟩ := k4 y [] () w' [] h3
 exact ⟨h1, h2, S1, φ2, h4⟩
theorem gOkD_of {C : Ctx T} {f : FuncId} {fn : Func} {c : Code} {cuts : List (Pos × Cut)} {ps rs : List Sh} {nl : Nl} {post : List PE} {D : DefP T} {g : denL T ps -> Option (denP T post × denL T rs)} (hm : P.follows .mixedOrders = true) (hE : EnvOk T P C.E)
  (hf : P.funcs[f]? = some fn) (hb : fn.body = some c) (hs : Nat.ble ps.length fn.ntmps = true) (hpin : Nat.ble (cntL ps) C.pin = true) (hpost : Nat.beq post.length (cntL ps) = true) (hdr : DOk T P D.g D.dr) (hdp : DOk T P D.g D.dp)
  (hg : ∀ x y, g x = some y -> ∃ m, topD P C cuts fn c nl ps post rs D m x = some y) : GOk T P f ⟨ps, post, rs, g⟩ := by
 intro x y hy w S φ hsim vs hvs hoks
 obtain ⟨N, hN⟩ := hg x y hy
 have hpost := Nat.eq_of_beq_eq_true hpost
 have hall : (mkAL T id ps x 0).length = ps.length := mkAL_len id ps x 0
 have hlen : vs.length = ps.length := by rw [<- hvs.len T]; exact hall
 have hsz : vs.length <= fn.ntmps := by rw [hlen]; exact Nat.le_of_ble_eq_true hs
 have hfr : Fr fn.ntmps [] (argF vs 0) { tmps := vs.toArray ++ Array.replicate (fn.ntmps - vs.toArray.size) undef, defers := [] } := by
  refine ⟨by simp; omega, rfl, fun i v hv => ?_⟩
  obtain ⟨_, h2⟩ := argF_get vs 0 i v hv
  simp only [Nat.sub_zero] at h2
  have hi := (List.getElem?_eq_some_iff.1 h2).1
  refine ⟨?_, by omega⟩
  rw [Array.getD_eq_getD_getElem?, Array.getElem?_append_left (by simpa using hi)]
  simp [h2]
 have hstart := hsim.slots hvs hoks
 have hpin1 := Nat.le_of_ble_eq_true hpin
 have hpin' : ((List.range (cntL ps)).map φ).length <= C.pin := by simpa using hpin1
 generalize hR0 : (fun (e : Ending) (w' : World) => match e with
   | .returned v => ∃ us, AnsG T post rs y.1 y.2 w S φ (cntL ps) w' us /\ v = packV us
   | _ => False) = R0
 have hcalls : Calls P f vs.toArray w R0 := by
  have hKs : KsOk (bodyPostD P fn R0) fn.ntmps [] w ⟨blksN φ (cntL ps), S, (List.range (cntL ps)).map φ⟩ y (leafsG T P fn nl post rs) := by
   have key : ∀ st, leafG T P fn nl post rs st = some y -> ∀ F1 w1, Stands T w ⟨blksN φ (cntL ps), S, (List.range (cntL ps)).map φ⟩ st F1 w1 -> ∀ a, Fr fn.ntmps [] F1 a -> Leaves P fn a.tmps R0 a.defers .returning w1 := by
    intro st hst F1 w1 hs1 a ha
    obtain ⟨v, h1, us, h2, h3⟩ := leafG_ok hpost hst hs1 ha
    rw [ha.defers]
    exact ⟨v, h1, by subst hR0; exact ⟨us, h2, h3⟩⟩
   exact ⟨key, fun i st h => (by cases h), key, fun a st h => (by cases h)⟩
  refine calls_of_wp_defers hf hb (evS_sound hm hpin' hE D.depth c _ _ _ w hN hKs ?_ ⟨S, φ, hstart⟩ _ hfr)
  clear hN hstart hfr hKs
  intro c2 st hst F1 w1 hs1 a ha
  obtain ⟨S1, φ1, hs1⟩ := hs1
  unfold deferK at hst
  split at hst <;> try (cases hst; done)
  rename_i rid ops B
  split at hst <;> try (cases hst; done)
  rename_i hdo
  unfold defOps at hdo
  rw [Bool.and_eq_true] at hdo
  obtain ⟨hd1, hd2⟩ := hdo
  split at hd2 <;> try (cases hd2; done)
  rename_i olast hlast
  split at hd2 <;> try (cases hd2; done)
  rename_i sl0 hsl
  have := Nat.eq_of_beq_eq_true hd2; subst this
  obtain ⟨cl, hop, hcal, hargs, hdst, hgd⟩ := defSl_spec hsl
  have hlast' : ops.toList = ops.toList.dropLast ++ [olast] := by
   have hne : ops.toList ≠ [] := by intro e; rw [e] at hlast; cases hlast
   rw [List.getLast?_eq_some_getLast hne] at hlast
   simp only [Option.some.injEq] at hlast
   rw [<- hlast]; exact (List.dropLast_concat_getLast hne).symm
  have hsize : ops.size = ops.toList.dropLast.length + 1 := by
   have := congrArg List.length hlast'
   rw [List.length_append] at this
   simpa using this
  refine wp_seq (CW.region (P := P) (Q := Exit.then (B.wp P (bodyPostD P fn R0)) (bodyPostD P fn R0)) (n := fn.ntmps) (ds := []) (F := F1) (w := w1) ?_ a ha)
  have hgen := reg_gen (w0 := w) (S0 := ⟨blksN φ (cntL ps), S, (List.range (cntL ps)).map φ⟩) (r := y) (ops := ops) (n := fn.ntmps) (stp := stepDf P C fun _ _ => none) (K := startB P C cuts fn B nl post rs D N)
   (fun k F' w2 => (k < ops.size -> WR P ops (Exit.then (B.wp P (bodyPostD P fn R0)) (bodyPostD P fn R0)) k fn.ntmps [] F' w2) /\
    (k = ops.size -> ∀ fv caps, F'.get D.sl = some (.func fv #[] caps) -> WR P ops (Exit.then (B.wp P (bodyPostD P fn R0)) (bodyPostD P fn R0)) k fn.ntmps [{ target := .fn fv caps, args := #[] }] F' w2)) ?_ ?_ ?_ ops.toList 0 rfl _ _ _ _ S1 φ1 hst hs1
  ·exact hgen.1 (by omega)
  ·intro k o F2 H2 F2' w2 S2 φ2 K hd hs h HK
   have hk := (dec_spec hd).1
   have hlt := (Array.getElem?_eq_some_iff.1 hk).1
   refine ⟨fun _ => ?_, fun e => absurd hlt (by omega)⟩
   unfold stepDf at hs
   split at hs
   ·rename_i hnd
    have hne : k + 1 ≠ ops.size := by
     intro e
     have : ops.toList[k]? = some olast := by
      rw [hlast', List.getElem?_append_right (by omega), show k - ops.toList.dropLast.length = 0 by omega]; rfl
     rw [show ops.toList[k]? = some o by simpa using hk] at this
     simp only [Option.some.injEq] at this; subst this
     rw [hop] at hnd; cases hnd
    exact step_sound hE hd hs h (fun st hst F1 w1 ⟨S1, φ1, h1⟩ => (HK st hst F1 w1 S1 φ1 h1).1 (by omega)) fun a st h => (by cases h)
   ·rename_i hnd
    have hko : k + 1 = ops.size := by
     apply Classical.byContradiction
     intro hne
     have hmem : o ∈ ops.toList.dropLast := by
      have h1 : ops.toList[k]? = some o := by simpa using hk
      rw [hlast', List.getElem?_append_left (by omega)] at h1
      exact List.mem_of_getElem? h1
     have := List.all_eq_true.1 hd1 o hmem
     rw [this] at hnd; cases hnd
    have hol : o = olast := by
     have : ops.toList[k]? = some olast := by
      rw [hlast', List.getElem?_append_right (by omega), show k - ops.toList.dropLast.length = 0 by omega]; rfl
     rw [show ops.toList[k]? = some o by simpa using hk] at this
     simpa using this
    subst hol
    rw [hsl] at hs
    simp only at hs
    split at hs <;> try (cases hs; done)
    rename_i fv caps hF
    obtain ⟨v, hv1, va, vb, rfl, hv2, hv3⟩ := h.fr _ _ hF
    have hva : va = #[] := by
     have := hv2.len T
     simpa using this.symm
    subst hva
    have hG := (HK ⟨F2, H2⟩ hs F2' w2 S2 φ2 h).2 hko fv vb hv1
    have hev : evD F2' (.tmp D.sl) = .func fv #[] vb := by simp [evD, ev, hv1]
    have hrun : decRun P ops k fn.ntmps F2' w2 = some (o.dst, .ok (.defer { target := .fn fv vb, args := #[] }) w2) := by
     unfold decRun; rw [hd]
     simp [execOp, hop, resolve, hcal, hargs, hev, Deferred.ofValue]
    refine WR.defer hrun ?_
    rw [hdst]
    exact hG
  ·intro k dst F' w2 hp hG
   refine ⟨fun hlt => ?_, fun e => ?_⟩
   ·by_cases hk : k + 1 < ops.size
    ·exact WR.pass1 hp (hG.1 hk)
    ·exfalso
     have hko : k + 1 = ops.size := by omega
     unfold passDst at hp
     have : ops[k]? = some olast := by
      have : ops.toList[k]? = some olast := by
       rw [hlast', List.getElem?_append_right (by omega), show k - ops.toList.dropLast.length = 0 by omega]; rfl
      simpa using this
     rw [this] at hp
     simp [wants, hgd] at hp
   ·exfalso
    unfold passDst at hp
    rw [Array.getElem?_eq_none (by omega)] at hp
    cases hp
  ·intro k st F2' w2 S2 φ2 hk hst h
   refine ⟨fun hlt => absurd hlt (by omega), fun _ fv capsV hget => .fin (Nat.ble_eq_true_of_le hk) fun a ha => ?_⟩
   show B.wp P (bodyPostD P fn R0) a w2
   unfold startB at hst
   split at hst <;> try (cases hst; done)
   rename_i st2 htr
   obtain ⟨S3, φ3, h3⟩ := trim_sound (S0 := ⟨blksN φ (cntL ps), S, (List.range (cntL ps)).map φ⟩) hpin' ⟨S2, φ2, h⟩ htr
   split at hst <;> try (cases hst; done)
   rename_i g0 caps hF
   split at hst <;> try (cases hst; done)
   rename_i hb
   simp only [Bool.and_eq_true] at hb
   obtain ⟨hb1, hb2, hb3, hb4, hb5, hb6⟩ := hb
   have := Nat.eq_of_beq_eq_true hb1; subst this
   have := capsEq_eq hb3; subst this
   have hb5 := Nat.le_of_ble_eq_true hb5
   have hb6 := Nat.le_of_ble_eq_true hb6
   obtain ⟨v, hv1, va, vb, rfl, hv2, hv3⟩ := h3.fr _ _ hF
   rw [hget] at hv1
   simp only [Option.some.injEq, Value.func.injEq] at hv1
   obtain ⟨rfl, _, rfl⟩ := hv1
   have h3p := h3.pinned hb6
   have hphi : ∀ k, k < cntL ps -> RSame (φ3 k) (φ k) := fun k hk => (h3.pins k (φ k) (by simp [hk])).1
   have caps4 : ∀ {st4 : St T} {F4 : PF} {w4 : World} {S4 : List Nat} {φ4 : Nat -> RA}, Sim T w ⟨blksN φ (cntL ps), S, (List.range D.pin).map φ3⟩ st4 F4 w4 S4 φ4 -> VRL T w4 S4 φ4 (capsOf D.cp) capsV.toList := fun h4 =>
    capsOf_vr hb4 hv3 fun k hk => (h4.pins k (φ3 k) (by simp [hk])).1
   have back : ∀ {st4 : St T} {F4 : PF} {w4 : World} {a4 : Act}, leafG T P fn nl post rs st4 = some y -> Stands T w ⟨blksN φ (cntL ps), S, (List.range D.pin).map φ3⟩ st4 F4 w4 -> Fr fn.ntmps [{ target := .fn (.func D.g) capsV, args := #[] }] F4 a4 -> ∃ v, (results fn a4.tmps).run P w4 = .ok v w4 /\ R0 (.returned v) w4 := by
    intro st4 F4 w4 a4 hl hs4 ha4
    obtain ⟨S4, φ4, hs4⟩ := hs4
    have hs5 := hs4.fewer (q := (List.range (cntL ps)).map φ) fun k r hk => by
     have hlt := (List.getElem?_eq_some_iff.1 hk).1
     simp at hlt
     simp [hlt] at hk
     subst hk
     have : k < D.pin := by omega
     exact ⟨φ3 k, by simp [this], hphi k hlt⟩
    obtain ⟨v, k1, us, k2, k3⟩ := leafG_ok hpost hl ⟨S4, φ4, hs5⟩ ha4
    exact ⟨v, k1, by subst hR0; exact ⟨us, k2, k3⟩⟩
   have hinv : ∀ w4, (invoke (.fn (.func D.g) capsV) #[]).run P w4 = .ok (.enter D.g capsV) w4 := fun w4 => by simp [invoke, enterable_run hb2]
   have hKs2 : KsOk (bodyPostD P fn R0) fn.ntmps [{ target := .fn (.func D.g) capsV, args := #[] }] w ⟨blksN φ (cntL ps), S, (List.range D.pin).map φ3⟩ y (leafsD P fn nl post rs D) := by
    have ret : ∀ st, callDf D.dr (capsOf D.cp ++ [.raw .nilIface]) st.H (fun H1 => leafG T P fn nl post rs ⟨st.F, H1⟩) = some y -> ∀ F1 w1, Stands T w ⟨blksN φ (cntL ps), S, (List.range D.pin).map φ3⟩ st F1 w1 -> ∀ a, Fr fn.ntmps [{ target := .fn (.func D.g) capsV, args := #[] }] F1 a -> Leaves P fn a.tmps R0 a.defers .returning w1 := by
     intro st4 hst4 F4 w4 hs4 a4 ha4
     obtain ⟨S4, φ4, hs4⟩ := hs4
     obtain ⟨H1, hK1, hc⟩ := callDf_sound hdr hst4 hs4 (caps4 hs4) (show VR T w4 S4 φ4 (.raw .nilIface) .nilIface from rfl)
     rw [ha4.defers]
     refine ⟨by simp, _, _, _, _, rfl, hinv w4, ?_⟩
     refine hc.mono fun e u' w' hR => ?_
     obtain ⟨⟨v0, rfl⟩, rfl, hS⟩ := hR
     exact back hK1 hS ha4
    refine ⟨ret, fun i st h => (by cases h), ret, fun a st hst4 => ?_⟩
    intro F4 w4 S4 φ4 v hs4 hv hok a4 ha4
    have hst4 : (match isIfc a with | true => callDf D.dp (capsOf D.cp ++ [a]) st.H fun H1 => leafG T P fn nl post rs ⟨st.F, H1⟩ | false => none) = some y := hst4
    split at hst4 <;> try (cases hst4; done)
    rename_i hif
    obtain ⟨t, u, rfl⟩ : ∃ t u, v = .iface t u := by
     cases a <;> try (cases hif; done)
     obtain ⟨u, rfl, _⟩ := hv
     exact ⟨_, u, rfl⟩
    obtain ⟨H1, hK1, hc⟩ := callDf_sound hdp hst4 hs4 (caps4 hs4) hv
    show Leaves P fn a4.tmps R0 a4.defers (.panicking [{ v := .iface t u, recovered := false }]) w4
    rw [ha4.defers]
    refine ⟨by simp, _, _, _, _, rfl, hinv w4, ?_⟩
    refine hc.mono fun e u' w' hR => ?_
    obtain ⟨⟨v0, rfl⟩, rfl, hS⟩ := hR
    exact back hK1 hS ha4
   exact evC_sound (C := C.at D.pin) (S0 := ⟨blksN φ (cntL ps), S, (List.range D.pin).map φ3⟩) hm (show ((List.range D.pin).map φ3).length <= D.pin by simp) hE B [] _ st2 _ F2' w2 hst hKs2 (JOk.run (C := C.at D.pin) hm (show ((List.range D.pin).map φ3).length <= D.pin by simp) hE hKs2 N) ⟨S3, φ3, h3p⟩ a ha
 subst hR0
 refine hcalls.mono fun e w' hR => ?_
 cases e with
 | returned v =>
  obtain ⟨us, ⟨F1, S1, φ1, k1, k2, k3⟩, k4⟩ := hR
  exact ⟨F1, S1, φ1, us, k1, k2, k4, k3⟩
 | panicked ch => exact hR.elim
 | outgrown => exact hR.elim
end
end Go.X
namespace Go.X
open Go.RowKit Go.V
def Sh.simple : Sh -> Bool
 | .val _ => true | .arr _ _ => true | .at_ _ _ => true | .ap _ _ _ _ _ => true | .nilp => true | .rw _ => true | .own _ => true | _ => false
def notNil {U : Nat -> Type} : AV U -> Bool | .raw (.slice none 0 0) => false | _ => true
section
variable {T : Tab}
theorem rdS_eq {H : List (Ent T.U)} (s : Sh) (hs : s.simple = true) (a : AV T.U) (l l' : Src) (x : s.den T) (h : rdS T H s a l = some (x, l')) (hn : notNil a = true) :
  l' = l /\ ∀ (σ : Nat -> Nat) (k : Nat), (∀ p i, l[p]? = some (some i) -> σ p = i) -> mkA T σ s x k = a := by
 cases s <;> try (cases hs; done)
 ·rename_i t
  unfold rdS at h
  split at h <;> try (cases h; done)
  rename_i y hy
  simp only [Option.some.injEq, Prod.mk.injEq] at h
  obtain ⟨rfl, rfl⟩ := h
  refine ⟨rfl, fun σ k _ => ?_⟩
  have := ofAV_eq hy (by intro e; subst e; cases hn)
  exact this.symm
 ·rename_i i o
  unfold rdS at h
  split at h <;> try (cases h; done)
  rename_i j o' ha
  split at h <;> try (cases h; done)
  rename_i hb
  simp only [Bool.and_eq_true] at hb
  simp only [Option.some.injEq, Prod.mk.injEq] at h
  obtain ⟨_, rfl⟩ := h
  have := ptrI_eq ha; subst this
  refine ⟨rfl, fun σ k hσ => ?_⟩
  show AV.ptr (σ i) o = _
  rw [hσ _ _ (seenAt_spec hb.2), Nat.eq_of_beq_eq_true hb.1]
 ·rename_i i
  unfold rdS at h
  split at h <;> try (cases h; done)
  rename_i j ha
  split at h <;> try (cases h; done)
  rename_i hb
  simp only [Option.some.injEq, Prod.mk.injEq] at h
  obtain ⟨_, rfl⟩ := h
  have := ownI_eq ha; subst this
  refine ⟨rfl, fun σ k hσ => ?_⟩
  show AV.own (σ i) = _
  rw [hσ _ _ (seenAt_spec hb)]
 ·unfold rdS at h
  split at h <;> try (cases h; done)
  rename_i hb
  simp only [Option.some.injEq, Prod.mk.injEq] at h
  obtain ⟨_, rfl⟩ := h
  have := nilpI_eq hb; subst this
  exact ⟨rfl, fun σ k _ => rfl⟩
 ·rename_i t n
  unfold rdS at h
  split at h <;> try (cases h; done)
  rename_i xs ha
  simp only [Option.some.injEq, Prod.mk.injEq] at h
  obtain ⟨rfl, rfl⟩ := h
  have := arrSh_eq ha; subst this
  exact ⟨rfl, fun σ k _ => rfl⟩
 ·rename_i i o sz n c
  unfold rdS at h
  split at h <;> try (cases h; done)
  rename_i j o' sz' n' q c' ha
  split at h <;> try (cases h; done)
  rename_i hb
  simp only [Bool.and_eq_true] at hb
  simp only [Option.some.injEq, Prod.mk.injEq] at h
  obtain ⟨rfl, rfl⟩ := h
  have := aptrI_eq ha; subst this
  refine ⟨rfl, fun σ k hσ => ?_⟩
  show AV.aptr (σ i) o sz n x c = _
  rw [hσ _ _ (seenAt_spec hb.1), Nat.eq_of_beq_eq_true hb.2.1, Nat.eq_of_beq_eq_true hb.2.2.1, Nat.eq_of_beq_eq_true hb.2.2.2.1, Nat.eq_of_beq_eq_true hb.2.2.2.2]
 ·rename_i n
  unfold rdS at h
  split at h <;> try (cases h; done)
  rename_i hb
  simp only [Option.some.injEq, Prod.mk.injEq] at h
  obtain ⟨_, rfl⟩ := h
  have := rawI_eq hb; subst this
  exact ⟨rfl, fun σ k _ => rfl⟩
end
structure KSpec (T : Tab) where
 o : Nat
 e : TypeId
 cs : List Sh
 ps : List Sh
 post : List PE
 rs : List Sh
 g : denL T (.ptr o e cs :: ps) -> Option (denP T (.blk e cs :: post) × denL T rs)
def headOk {T : Tab} (H : List (Ent T.U)) : List (AV T.U) -> Bool
 | .ptr i _ :: _ => (match H[i]? with | some (.blk _ cs) => cs.all notNil | _ => false)
 | _ => false
section
variable {T : Tab} {P : Program}
theorem σJ_at {ids : List Nat} {n j i : Nat} (h : ids[j]? = some i) : σJ ids n j = i := by
 have hlt := (List.getElem?_eq_some_iff.1 h).1
 have := σJ_lo (ids := ids) (n := n) hlt
 rw [h] at this; exact (Option.some.inj this).symm
def CallSpec.forkH {T : Tab} (c : List (AV T.U) -> List (Ent T.U) -> Bool) (a b : CallSpec T) : CallSpec T where
 call := fun as H K Kp => forkB (c as H) (a.call as H K Kp) (b.call as H K Kp)
 q := fun as H K => forkB (c as H) (a.q as H K) (b.q as H K)
 isq := a.isq
 wr := fun as H => a.wr as H ++ b.wr as H
def CallSpec.forkS {T : Tab} (ps : List Sh) (c : denL T ps -> Bool) (a b : CallSpec T) : CallSpec T := CallSpec.forkH (fun as H => match rdSL T H ps as [] with | some (x, _) => c x | none => false) a b
theorem forkHCall_ok {f : FuncId} (c : List (AV T.U) -> List (Ent T.U) -> Bool) {a b : CallSpec T} (ha : SoundCall T P f a /\ SoundQ T P f a /\ DetC a) (hb : SoundCall T P f b /\ SoundQ T P f b /\ DetC b) : SoundCall T P f (CallSpec.forkH c a b) /\ SoundQ T P f (CallSpec.forkH c a b) /\ DetC (CallSpec.forkH c a b) := by
 refine ⟨fun as H K Kp r h => ?_, fun as H K r h => ?_, fun as H K Kp r h => ?_⟩
 ·rcases forkB_cases h with ⟨_, h⟩ | ⟨_, h⟩
  ·exact ha.1 as H K Kp r h
  ·exact hb.1 as H K Kp r h
 ·rcases forkB_cases h with ⟨_, h⟩ | ⟨_, h⟩
  ·exact ha.2.1 as H K r h
  ·exact hb.2.1 as H K r h
 ·have ec : ∀ c0, c as H = c0 -> ∀ {R' : Type} (K' Kp' : AV T.U -> List (Ent T.U) -> Option R'), (CallSpec.forkH c a b).call as H K' Kp' = forkB c0 (a.call as H K' Kp') (b.call as H K' Kp') := fun c0 hc _ K' Kp' => by
   subst hc; rfl
  have ew : (CallSpec.forkH c a b).wr as H = a.wr as H ++ b.wr as H := rfl
  rw [ew]
  have kl : ∀ {H1 : List (Ent T.U)}, Keeps T (a.wr as H) H H1 -> Keeps T (a.wr as H ++ b.wr as H) H H1 := fun h => ⟨h.len, fun e he hn => h.same e he fun hm => hn (List.mem_append.2 (.inl hm)), h.row⟩
  have kr : ∀ {H1 : List (Ent T.U)}, Keeps T (b.wr as H) H H1 -> Keeps T (a.wr as H ++ b.wr as H) H H1 := fun h => ⟨h.len, fun e he hn => h.same e he fun hm => hn (List.mem_append.2 (.inr hm)), h.row⟩
  cases hc : c as H with
  | true =>
   rw [ec _ hc] at h
   have := ha.2.2 as H K Kp r h
   rcases this with ⟨x, H1, h1, h2, h3⟩ | ⟨x, H1, h1, h2, h3⟩
   ·exact .inl ⟨x, H1, h1, kl h2, fun K' Kp' => (ec _ hc K' Kp').trans (h3 K' Kp')⟩
   ·exact .inr ⟨x, H1, h1, kl h2, fun K' Kp' => (ec _ hc K' Kp').trans (h3 K' Kp')⟩
  | false =>
   rw [ec _ hc] at h
   have := hb.2.2 as H K Kp r h
   rcases this with ⟨x, H1, h1, h2, h3⟩ | ⟨x, H1, h1, h2, h3⟩
   ·exact .inl ⟨x, H1, h1, kr h2, fun K' Kp' => (ec _ hc K' Kp').trans (h3 K' Kp')⟩
   ·exact .inr ⟨x, H1, h1, kr h2, fun K' Kp' => (ec _ hc K' Kp').trans (h3 K' Kp')⟩
theorem forkSCall_ok {f : FuncId} (ps : List Sh) (c : denL T ps -> Bool) {a b : CallSpec T} (ha : SoundCall T P f a /\ SoundQ T P f a /\ DetC a) (hb : SoundCall T P f b /\ SoundQ T P f b /\ DetC b) : SoundCall T P f (CallSpec.forkS ps c a b) /\ SoundQ T P f (CallSpec.forkS ps c a b) /\ DetC (CallSpec.forkS ps c a b) := forkHCall_ok _ ha hb
end
end Go.X
