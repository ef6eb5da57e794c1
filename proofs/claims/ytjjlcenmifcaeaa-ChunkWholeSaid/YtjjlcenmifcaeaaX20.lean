/- A function's code, walked from shapes to shapes. Nothing here is about one program. -/
import Derived.Test.YtjjlcenmifcaeaaX19
namespace Go.X
open Go.RowKit Go.V

section
variable {T : Tab} {P : Program} {w w' : World} {S S' : List Nat} {φ φ' : Nat → RA} {w0 : World} {S0 : Ow} {F : AF T} {H : List (Ent T.U)} {F' : PF}
theorem rdP_spec {H : List (Ent T.U)} : ∀ (ps : List PE) (j : Nat) (l l' : Src) (x : denP T ps), rdP T H ps j l = some (x, l') →
    ∃ new, l' = l ++ new.map some ∧ new.length = cntP ps ∧ (∀ i ∈ new, ∃ e, H[i]? = some e ∧ e.live = true ∧ ∀ j ∈ e.cellIds, some j ∈ l') ∧ (∀ i, some i ∈ srcP ps j → ∃ e, H[i]? = some e ∧ ∀ j ∈ e.cellIds, some j ∈ l') ∧
      ∀ ρ, Places ρ l' → ImpH T (entsO T H ρ (srcP ps j)) (mkP T id ps x l.length) ∧ ImpH T (entsOf T H ρ new) (mkPN T id ps x l.length)
  | [], j, l, l', x, h => by
    simp only [rdP, Option.some.injEq, Prod.mk.injEq] at h
    obtain ⟨_, rfl⟩ := h
    exact ⟨[], by simp, rfl, (by intro i hi; cases hi), (by intro i hi; cases hi), fun ρ hρ => ⟨.nil, .nil⟩⟩
  | p :: r, j, l, l', x, h => by
    unfold rdP at h
    split at h <;> try (cases h; done)
    rename_i y l1 hy
    obtain ⟨z, hz, rfl⟩ := pairO_some h
    obtain ⟨n2, k1, k2, k3, k4, k5⟩ := rdP_spec r (j + 1) l1 l' z hz
    have hsub : ∀ i, some i ∈ l1 → some i ∈ l' := fun i hi => by rw [k1]; exact List.mem_append.2 (.inl hi)
    cases p with
    | gone =>
      simp only [rdP1, Option.some.injEq, Prod.mk.injEq] at hy
      obtain ⟨_, rfl⟩ := hy
      refine ⟨n2, k1, by rw [k2]; show _ = 0 + cntP r; omega, k3, fun i hi => ?_, fun ρ hρ => ?_⟩
      · have hi : some i ∈ none :: srcP r (j + 1) := hi
        exact k4 i (by simpa using hi)
      · obtain ⟨q1, q2⟩ := k5 ρ hρ
        exact ⟨.cons (.same _) q1, q2⟩
    | row e t =>
      simp only [rdP1] at hy
      split at hy <;> try (cases hy; done)
      rename_i xs hx
      simp only [Option.some.injEq, Prod.mk.injEq] at hy
      obtain ⟨rfl, rfl⟩ := hy
      have hx := rowAt_spec hx
      refine ⟨n2, k1, by rw [k2]; show _ = 0 + cntP r; omega, k3, fun i hi => ?_, fun ρ hρ => ?_⟩
      · have hi : some i ∈ some j :: srcP r (j + 1) := hi
        rcases List.mem_cons.1 hi with hi | hi
        · simp only [Option.some.injEq] at hi; subst hi
          exact ⟨_, hx, by intro j hj; cases hj⟩
        · exact k4 i hi
      · obtain ⟨q1, q2⟩ := k5 ρ hρ
        refine ⟨?_, q2⟩
        show ImpH T ((match H[j]? with | some e => e.ren ρ | none => .gone) :: entsO T H ρ (srcP r (j + 1))) _
        rw [hx]
        exact .cons (.same _) q1
    | tmap kd t =>
      simp only [rdP1] at hy
      split at hy <;> try (cases hy; done)
      rename_i xs hx
      simp only [Option.some.injEq, Prod.mk.injEq] at hy
      obtain ⟨rfl, rfl⟩ := hy
      have hx := tmAt_spec hx
      refine ⟨n2, k1, by rw [k2]; show _ = 0 + cntP r; omega, k3, fun i hi => ?_, fun ρ hρ => ?_⟩
      · have hi : some i ∈ some j :: srcP r (j + 1) := hi
        rcases List.mem_cons.1 hi with hi | hi
        · simp only [Option.some.injEq] at hi; subst hi
          exact ⟨_, hx, by intro j hj; cases hj⟩
        · exact k4 i hi
      · obtain ⟨q1, q2⟩ := k5 ρ hρ
        refine ⟨?_, q2⟩
        show ImpH T ((match H[j]? with | some e => e.ren ρ | none => .gone) :: entsO T H ρ (srcP r (j + 1))) _
        rw [hx]
        exact .cons (.same _) q1
    | dr e d fe =>
      simp only [rdP1] at hy
      split at hy <;> try (cases hy; done)
      rename_i xs hx
      simp only [Option.some.injEq, Prod.mk.injEq] at hy
      obtain ⟨rfl, rfl⟩ := hy
      have hx := drAt_spec hx
      refine ⟨n2, k1, by rw [k2]; show _ = 0 + cntP r; omega, k3, fun i hi => ?_, fun ρ hρ => ?_⟩
      · have hi : some i ∈ some j :: srcP r (j + 1) := hi
        rcases List.mem_cons.1 hi with hi | hi
        · simp only [Option.some.injEq] at hi; subst hi
          exact ⟨_, hx, by intro j hj; cases hj⟩
        · exact k4 i hi
      · obtain ⟨q1, q2⟩ := k5 ρ hρ
        refine ⟨?_, q2⟩
        show ImpH T ((match H[j]? with | some e => e.ren ρ | none => .gone) :: entsO T H ρ (srcP r (j + 1))) _
        rw [hx]
        exact .cons (.same _) q1
    | pm k be d =>
      simp only [rdP1] at hy
      split at hy <;> try (cases hy; done)
      rename_i xs hx
      simp only [Option.some.injEq, Prod.mk.injEq] at hy
      obtain ⟨rfl, rfl⟩ := hy
      have hx := pmAt_spec hx
      refine ⟨n2, k1, by rw [k2]; show _ = 0 + cntP r; omega, k3, fun i hi => ?_, fun ρ hρ => ?_⟩
      · have hi : some i ∈ some j :: srcP r (j + 1) := hi
        rcases List.mem_cons.1 hi with hi | hi
        · simp only [Option.some.injEq] at hi; subst hi
          exact ⟨_, hx, by intro j hj; cases hj⟩
        · exact k4 i hi
      · obtain ⟨q1, q2⟩ := k5 ρ hρ
        refine ⟨?_, q2⟩
        show ImpH T ((match H[j]? with | some e => e.ren ρ | none => .gone) :: entsO T H ρ (srcP r (j + 1))) _
        rw [hx]
        exact .cons (.same _) q1
    | blk e cs =>
      simp only [rdP1] at hy
      split at hy <;> try (cases hy; done)
      rename_i as hb
      have hb := blkAt_spec hb
      obtain ⟨n1, g1, g2, g3⟩ := rdSL_spec cs as l l1 y hy
      have hlen : l1.length = l.length + cntL cs := by rw [g1.eq, List.length_append, List.length_map, g2]
      refine ⟨n1 ++ n2, by rw [k1, g1.eq, List.map_append, List.append_assoc], by rw [List.length_append, g2, k2]; rfl, fun i hi => ?_, fun i hi => ?_, fun ρ hρ => ?_⟩
      · rcases List.mem_append.1 hi with hi | hi
        · obtain ⟨e, a, b, c⟩ := g1.ents i hi
          exact ⟨e, a, b, fun j hj => hsub j (c j hj)⟩
        · exact k3 i hi
      · have hi : some i ∈ some j :: srcP r (j + 1) := hi
        rcases List.mem_cons.1 hi with hi | hi
        · simp only [Option.some.injEq] at hi; subst hi
          exact ⟨_, hb, fun j hj => hsub j (g1.ids j hj)⟩
        · exact k4 i hi
      · obtain ⟨q1, q2⟩ := k5 ρ hρ
        obtain ⟨q3, q4⟩ := g3 ρ (by rw [k1] at hρ; exact hρ.pre)
        rw [hlen] at q1 q2
        refine ⟨?_, by rw [entsOf_app]; exact q4.app q2⟩
        show ImpH T ((match H[j]? with | some e => e.ren ρ | none => .gone) :: entsO T H ρ (srcP r (j + 1))) _
        rw [hb]
        exact .cons (.blk q3) q1
    | map kd keys cs =>
      simp only [rdP1] at hy
      split at hy <;> try (cases hy; done)
      rename_i as hb
      have hb := mapAt_spec hb
      obtain ⟨n1, g1, g2, g3⟩ := rdSL_spec cs as l l1 y hy
      have hlen : l1.length = l.length + cntL cs := by rw [g1.eq, List.length_append, List.length_map, g2]
      refine ⟨n1 ++ n2, by rw [k1, g1.eq, List.map_append, List.append_assoc], by rw [List.length_append, g2, k2]; rfl, fun i hi => ?_, fun i hi => ?_, fun ρ hρ => ?_⟩
      · rcases List.mem_append.1 hi with hi | hi
        · obtain ⟨e, a, b, c⟩ := g1.ents i hi
          exact ⟨e, a, b, fun j hj => hsub j (c j hj)⟩
        · exact k3 i hi
      · have hi : some i ∈ some j :: srcP r (j + 1) := hi
        rcases List.mem_cons.1 hi with hi | hi
        · simp only [Option.some.injEq] at hi; subst hi
          exact ⟨_, hb, fun j hj => hsub j (g1.ids j (zipK_ids keys as j hj))⟩
        · exact k4 i hi
      · obtain ⟨q1, q2⟩ := k5 ρ hρ
        obtain ⟨q3, q4⟩ := g3 ρ (by rw [k1] at hρ; exact hρ.pre)
        rw [hlen] at q1 q2
        refine ⟨?_, by rw [entsOf_app]; exact q4.app q2⟩
        show ImpH T ((match H[j]? with | some e => e.ren ρ | none => .gone) :: entsO T H ρ (srcP r (j + 1))) _
        rw [hb]
        refine .cons ?_ q1
        show ImpE T (.map kd (renM ρ (zipK keys as))) _
        rw [zipK_ren]
        exact .map q3
theorem srcP_len : ∀ (ps : List PE) (j : Nat), (srcP ps j).length = ps.length
  | [], j => rfl
  | .gone :: r, j => by simp [srcP, srcP_len r]
  | .row _ _ :: r, j => by simp [srcP, srcP_len r]
  | .tmap _ _ :: r, j => by simp [srcP, srcP_len r]
  | .dr _ _ _ :: r, j => by simp [srcP, srcP_len r]
  | .pm _ _ _ :: r, j => by simp [srcP, srcP_len r]
  | .blk _ _ :: r, j => by simp [srcP, srcP_len r]
  | .map _ _ _ :: r, j => by simp [srcP, srcP_len r]
theorem srcP_at : ∀ (ps : List PE) (j k : Nat), k < ps.length → (srcP ps j)[k]? = some (some (j + k)) ∨ (srcP ps j)[k]? = some none
  | [], j, k, h => by simp at h
  | p :: r, j, 0, h => by cases p <;> simp [srcP]
  | p :: r, j, k + 1, h => by
    have := srcP_at r (j + 1) k (by simpa using h)
    rw [show j + 1 + k = j + (k + 1) by omega] at this
    cases p <;> simpa [srcP] using this
theorem ownNilsB_vr {w0 : World} {S0 : Ow} {F : AF T} {F' : PF} {w : World} {S : List Nat} : ∀ (l : List (Nat × Nat × TypeId × Ty)) {as : List (AV T.U)} {us : List Value} {H : List (Ent T.U)} {φ : Nat → RA}, Sim T w0 S0 ⟨F, H⟩ F' w S φ → VRL T w S φ as us → (∀ i ∈ idsL as, i < H.length) →
    ∃ φ', Sim T w0 S0 ⟨F, ownNilsB T l H⟩ F' w S φ' ∧ VRL T w S φ' as us ∧ ∀ i ∈ idsL as, i < (ownNilsB T l H).length
  | [], as, us, H, φ, h, hv, hi => ⟨φ, h, hv, hi⟩
  | (i, c, e, t) :: r, as, us, H, φ, h, hv, hids => by
    unfold ownNilsB
    split
    · obtain ⟨φ1, h1, h2, h3⟩ := h.closeL (List.range H.length)
      exact ownNilsB_vr r h1 (hv.phiS fun i _ => h2 i) fun i hm => by rw [h3]; exact hids i hm
    split
    · rename_i e0 cs hi
      split
      · rename_i hc
        have h1 := h.addNil e t
        have hil := (List.getElem?_eq_some_iff.1 hi).1
        obtain ⟨g, cv, a1, a2, a3, a4⟩ := h1.ents i _ (by rw [List.getElem?_append_left hil]; exact hi)
        have h2 := h1.upd (i := i) (e0 := .blk e0 cs) (e := .blk e0 (cs.set c (.own H.length))) (Tc := []) (w' := w) (by rw [List.getElem?_append_left hil]; exact hi) rfl (Chg.refl [] w) (by simp)
          ⟨g, cv, a1, a2, a3, BR.swap (b := .own H.length) rfl rfl (fun v hv => by rw [VR] at hv; subst hv; rw [VR, setR_eq]) a4 hc⟩
          (by
            intro j hj
            rw [Ent.cellIds] at hj
            obtain ⟨b, hb, hjb⟩ := idsL_of hj
            rcases List.mem_or_eq_of_mem_set hb with hb | hb
            · have := h.eids i _ hi j (by rw [Ent.cellIds]; exact idsL_mem hb j hjb)
              simp at this ⊢; omega
            · subst hb; simp [AV.ids] at hjb; subst hjb; simp) (by intro _ _ _ h; cases h)
        have hset : (H ++ [Ent.row e t []]).set i (.blk e0 (cs.set c (.own H.length))) = H.set i (.blk e0 (cs.set c (.own H.length))) ++ [.row e t []] := by
          rw [List.set_append_left _ _ hil]
        rw [hset] at h2
        exact ownNilsB_vr r h2 (hv.phi fun i hm => setR_ne (by have := hids i hm; omega)) fun i hm => by have := hids i hm; simp; omega
      · rename_i k hc
        split
        · split
          · rename_i e' t' xs hk
            exact ownNilsB_vr r (h.cellSl hi hc hk) hv fun i hm => by have := hids i hm; simpa using this
          · exact ownNilsB_vr r h hv hids
        · exact ownNilsB_vr r h hv hids
      · exact ownNilsB_vr r h hv hids
    · exact ownNilsB_vr r h hv hids
end
section
variable (T : Tab)
/-- what is left, and what is told. -/
def AnsG (post : List PE) (rs : List Sh) (y : denP T post) (z : denL T rs) (w : World) (S : List Nat) (φ : Nat → RA) (cnt : Nat) (w' : World) (us : List Value) : Prop :=
  ∃ (F1 : PF) (S1 : List Nat) (φ1 : Nat → RA), Sim T w ⟨blksN φ cnt, S, (List.range cnt).map φ⟩ ⟨[], mkP T id post y post.length ++ (mkPN T id post y post.length ++ mkEL T id rs z (post.length + cntP post))⟩ F1 w' S1 φ1 ∧
    VRL T w' S1 φ1 (mkAL T id rs z (post.length + cntP post)) us ∧ ∀ i ∈ idsL (mkAL T id rs z (post.length + cntP post)), i < post.length + (cntP post + cntL rs)
end
section
variable {T : Tab} {P : Program} {w w' : World} {S S' : List Nat} {φ φ' : Nat → RA} {w0 : World} {S0 : Ow} {F : AF T} {H : List (Ent T.U)} {F' : PF}
theorem ans_of {cnt : Nat} {post : List PE} (hpost : post.length = cnt) {rs : List Sh} {as : List (AV T.U)} {st : St T} {y1 : denP T post} {z : denL T rs} {l1 l2 : Src} {F1 : PF} {w1 : World} {S1 : List Nat} {φ1 : Nat → RA} {us : List Value}
    (h1 : rdP T st.H post 0 (srcP post 0) = some (y1, l1)) (h2 : rdSL T st.H rs as l1 = some (z, l2)) (hn : nodupO l2 = true)
    (hsm : Sim T w ⟨blksN φ cnt, S, (List.range cnt).map φ⟩ st F1 w1 S1 φ1) (hr2 : VRL T w1 S1 φ1 as us) : AnsG T post rs y1 z w S φ cnt w1 us := by
  obtain ⟨n1, g1, g2, g3, g4, g5⟩ := rdP_spec post 0 _ _ y1 h1
  obtain ⟨n2, k1, k2, k3⟩ := rdSL_spec rs as _ _ z h2
  have hsub : ∀ i, some i ∈ l1 → some i ∈ l2 := fun i hi => by rw [k1.eq]; exact List.mem_append.2 (.inl hi)
  have hl2 : l2 = srcP post 0 ++ (n1.map some ++ n2.map some) := by rw [k1.eq, g1, List.append_assoc]
  have hl1 : l1.length = post.length + cntP post := by rw [g1, List.length_append, List.length_map, g2, srcP_len]
  have hpl := places_idx hn
  obtain ⟨q1, q2⟩ := g5 (fun i => idxO i l2) (Places.pre (m := n2.map some) (by rw [← k1.eq]; exact hpl))
  obtain ⟨q3, q4⟩ := k3 _ hpl
  rw [srcP_len] at q1 q2
  rw [hl1] at q3 q4
  have hs := hsm.src (l := l2) hn (fun k hk => by
    simp at hk
    rw [hl2, List.getElem?_append_left (by rw [srcP_len]; omega)]
    have := srcP_at post 0 k (by omega)
    rwa [Nat.zero_add] at this) (fun i e hi he j hj => by
    rw [hl2] at hi
    rcases List.mem_append.1 hi with hi | hi
    · obtain ⟨e', p1, p2⟩ := g4 i hi
      rw [he] at p1; simp only [Option.some.injEq] at p1; subst p1
      exact hsub j (p2 j hj)
    · rcases List.mem_append.1 hi with hi | hi
      · obtain ⟨i', hi', e'⟩ := List.mem_map.1 hi
        simp only [Option.some.injEq] at e'; subst e'
        obtain ⟨e', p1, _, p2⟩ := g3 i' hi'
        rw [he] at p1; simp only [Option.some.injEq] at p1; subst p1
        exact hsub j (p2 j hj)
      · obtain ⟨i', hi', e'⟩ := List.mem_map.1 hi
        simp only [Option.some.injEq] at e'; subst e'
        obtain ⟨e', p1, _, p2⟩ := k1.ents i' hi'
        rw [he] at p1; simp only [Option.some.injEq] at p1; subst p1
        exact p2 j hj)
  have hents : entsO T st.H (fun i => idxO i l2) l2 = entsO T st.H (fun i => idxO i l2) (srcP post 0) ++ (entsOf T st.H (fun i => idxO i l2) n1 ++ entsOf T st.H (fun i => idxO i l2) n2) := by
    conv => lhs; arg 4; rw [hl2]
    rw [entsO_app, entsO_app, entsO_map, entsO_map]
  rw [hents] at hs
  refine ⟨[], S1, _, hs.imp (q1.app (q2.app q4)), q3.vrl (VRL.ren T (fun i hi => φO_idx (k1.ids i hi)) hr2), ?_⟩
  intro i hi
  rw [q3.ids] at hi
  refine renL_ids_le (fun j hj => ?_) i hi
  have := (List.getElem?_eq_some_iff.1 (idxO_spec (k1.ids j hj))).1
  rw [k1.eq, List.length_append, List.length_map, k2, hl1] at this
  rw [k1.eq]; omega
theorem leafG_ok {cnt n : Nat} {ds : List Deferred} {fn : Func} {nl : Nl} {post : List PE} {rs : List Sh} (hpost : post.length = cnt) {st0 : St T} {y' : denP T post × denL T rs} (hst : leafG T P fn nl post rs st0 = some y') {F1 : PF} {w1 : World}
    (hsm0 : Stands T w ⟨blksN φ cnt, S, (List.range cnt).map φ⟩ st0 F1 w1) {a : Act} (ha : Fr n ds F1 a) : ∃ v, (results fn a.tmps).run P w1 = .ok v w1 ∧ ∃ us, AnsG T post rs y'.1 y'.2 w S φ cnt w1 us ∧ v = packV us := by
  unfold leafG at hst
  split at hst <;> try (cases hst; done)
  rename_i as0 has
  obtain ⟨S1, φ0, hsm0'⟩ := hsm0
  obtain ⟨us, hr1, hr0⟩ := results_run hsm0' ha has
  split at hst <;> try (cases hst; done)
  rename_i asw Hw hw
  obtain ⟨φw, hsmw, hrw, hres⟩ := fixW_sound (by simp [hpost]) nl.w hw hsm0'.noF hr0 (fixR_res (P := P) hsm0' has)
  obtain ⟨φb, hsmb, hrb, hib⟩ := ownNilsB_vr nl.bn hsmw hrw hres
  obtain ⟨φ1, hsm, hr20⟩ := fixR_sound nl.rs hsmb hib hrb
  have hr2 := fixO_sound hsm nl.ow hr20
  simp only at hst
  generalize hgp : fixR T nl.rs asw (ownNilsB T nl.bn Hw) = pr at hst hsm hr2
  obtain ⟨as1, Hf⟩ := pr
  simp only at hr2 hst
  generalize fixO T nl.ow as1 Hf = as at hst hr2
  obtain ⟨as2, H2, S2, hK, hsm2, hv2⟩ := fixZ_sound nl.z hst hsm hr2
  unfold leafZ at hK
  split at hK <;> try (cases hK; done)
  rename_i y1 l1 h1
  split at hK <;> try (cases hK; done)
  rename_i z l2 h2
  split at hK <;> try (cases hK; done)
  rename_i hn
  simp only [Option.some.injEq] at hK; subst hK
  exact ⟨_, hr1, us, ans_of (st := ⟨[], H2⟩) hpost h1 h2 hn hsm2 hv2, rfl⟩
theorem gOk_of {C : Ctx T} {f : FuncId} {fn : Func} {c : Code} {cuts : List (Pos × Cut)} {ps rs : List Sh} {nl : Nl} {post : List PE} {g : denL T ps → Option (denP T post × denL T rs)} (hm : P.follows .mixedOrders = true) (hE : EnvOk T P C.E)
    (hf : P.funcs[f]? = some fn) (hb : fn.body = some c) (hs : Nat.ble ps.length fn.ntmps = true) (hpin : Nat.ble (cntL ps) C.pin = true) (hpost : Nat.beq post.length (cntL ps) = true)
    (hg : ∀ x y, g x = some y → ∃ m, topG T P C cuts fn c nl ps post rs m x = some y) : GOk T P f ⟨ps, post, rs, g⟩ := by
  intro x y hy w S φ hsim vs hvs hoks
  obtain ⟨N, hN⟩ := hg x y hy
  have hpost := Nat.eq_of_beq_eq_true hpost
  have hall : (mkAL T id ps x 0).length = ps.length := by
    have : ∀ (l : List Sh) (x : denL T l) (k : Nat), (mkAL T id l x k).length = l.length := by
      intro l
      induction l with
      | nil => intro x k; rfl
      | cons s r ih => intro x k; exact congrArg (· + 1) (ih x.2 _)
    exact this ps x 0
  have hlen : vs.length = ps.length := by rw [← hvs.len T]; exact hall
  have hsz : vs.length ≤ fn.ntmps := by rw [hlen]; exact Nat.le_of_ble_eq_true hs
  have hfr : Fr fn.ntmps [] (argF vs 0) { tmps := vs.toArray ++ Array.replicate (fn.ntmps - vs.toArray.size) undef, defers := [] } := by
    refine ⟨by simp; omega, rfl, fun i v hv => ?_⟩
    obtain ⟨_, h2⟩ := argF_get vs 0 i v hv
    simp only [Nat.sub_zero] at h2
    have hi := (List.getElem?_eq_some_iff.1 h2).1
    refine ⟨?_, by omega⟩
    rw [Array.getD_eq_getD_getElem?, Array.getElem?_append_left (by simpa using hi)]
    simp [h2]
  have hstart := hsim.slots hvs hoks
  have hpin' : ((List.range (cntL ps)).map φ).length ≤ C.pin := by simpa using Nat.le_of_ble_eq_true hpin
  have key : ∀ st, leafG T P fn nl post rs st = some y → ∀ F1 w1, Stands T w ⟨blksN φ (cntL ps), S, (List.range (cntL ps)).map φ⟩ st F1 w1 → ∀ a, Fr fn.ntmps [] F1 a → ∃ v, (results fn a.tmps).run P w1 = .ok v w1 ∧
      ∃ (F1 : PF) (S1 : List Nat) (φ1 : Nat → RA) (us : List Value), Sim T w ⟨blksN φ (cntL ps), S, (List.range (cntL ps)).map φ⟩ ⟨[], mkP T id post y.1 post.length ++ (mkPN T id post y.1 post.length ++ mkEL T id rs y.2 (post.length + cntP post))⟩ F1 w1 S1 φ1 ∧
        VRL T w1 S1 φ1 (mkAL T id rs y.2 (post.length + cntP post)) us ∧ v = packV us ∧ ∀ i ∈ idsL (mkAL T id rs y.2 (post.length + cntP post)), i < post.length + (cntP post + cntL rs) := by
    intro st0 hst F1 w1 hsm0 a ha
    obtain ⟨v, h1, us, ⟨F2, S2, φ2, k1, k2, k3⟩, h3⟩ := leafG_ok hpost hst hsm0 ha
    exact ⟨v, h1, F2, S2, φ2, us, k1, k2, h3, k3⟩
  have hKs : KsOk (bodyPost P fn fun e w' => match e with
      | .returned v => ∃ (F1 : PF) (S1 : List Nat) (φ1 : Nat → RA) (us : List Value), Sim T w ⟨blksN φ (cntL ps), S, (List.range (cntL ps)).map φ⟩ ⟨[], mkP T id post y.1 post.length ++ (mkPN T id post y.1 post.length ++ mkEL T id rs y.2 (post.length + cntP post))⟩ F1 w' S1 φ1 ∧
        VRL T w' S1 φ1 (mkAL T id rs y.2 (post.length + cntP post)) us ∧ v = packV us ∧ ∀ i ∈ idsL (mkAL T id rs y.2 (post.length + cntP post)), i < post.length + (cntP post + cntL rs)
      | _ => False) fn.ntmps [] w ⟨blksN φ (cntL ps), S, (List.range (cntL ps)).map φ⟩ y (leafsG T P fn nl post rs) := by
    refine ⟨?_, fun i st h => (by cases h), ?_, fun a st h => (by cases h)⟩
    · intro st hst F1 w1 hs1 a ha
      obtain ⟨v, h1, h2⟩ := key st hst F1 w1 hs1 a ha
      exact ⟨ha.defers, v, h1, h2⟩
    · intro st hst F1 w1 hs1 a ha
      obtain ⟨v, h1, h2⟩ := key st hst F1 w1 hs1 a ha
      exact ⟨ha.defers, v, h1, h2⟩
  exact calls_of_wp hf hb (evC_sound hm hpin' hE c [] _ _ _ _ w hN hKs (JOk.run hm hpin' hE hKs N) ⟨S, φ, hstart⟩ _ hfr)
theorem noCall_ok (f : FuncId) : SoundCall T P f (noCall T) ∧ SoundQ T P f (noCall T) ∧ DetC (noCall T) :=
  ⟨fun _ _ _ _ _ h => (by cases h), fun _ _ _ _ h => (by cases h), fun _ _ _ _ _ h => (by cases h)⟩
theorem fnCall_ok {f : FuncId} {sp : FnSpec T} (h : FnOk T P f sp) : SoundCall T P f sp.toCall ∧ SoundQ T P f sp.toCall ∧ DetC sp.toCall := ⟨soundCall_of h, soundQ_of h, detC_of sp⟩
theorem gCall_ok {f : FuncId} {sp : GSpec T} {alt : CallSpec T} (h : GOk T P f sp) (ha : SoundCall T P f alt ∧ SoundQ T P f alt ∧ DetC alt) : SoundCall T P f (sp.toCall alt) ∧ SoundQ T P f (sp.toCall alt) ∧ DetC (sp.toCall alt) := ⟨soundCall_G h ha.1, ha.2.1, detC_G ha.2.2⟩
theorem envG {f : FuncId} {cs : CallSpec T} {E : List (FuncId × CallSpec T)} (h : SoundCall T P f cs ∧ SoundQ T P f cs ∧ DetC cs) (hE : EnvOk T P E) : EnvOk T P ((f, cs) :: E) := by
  intro g cs' hg
  unfold findE at hg
  split at hg
  · rename_i hb
    have := Nat.eq_of_beq_eq_true hb; subst this
    simp only [Option.some.injEq] at hg; subst hg
    exact h
  · exact hE g cs' hg
end
end Go.X
