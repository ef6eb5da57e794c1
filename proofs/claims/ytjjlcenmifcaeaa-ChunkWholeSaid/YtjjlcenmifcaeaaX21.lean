/- A function that answers or panics, known by shapes. Nothing here is about one program. -/
import Derived.Test.YtjjlcenmifcaeaaXO
namespace Go.X
open Go.RowKit Go.V

structure PSpec (T : Tab) where
  ps : List Sh
  post : List PE
  rs : List Sh
  pv : Sh
  g : denL T ps → Option (denP T post × (denL T rs ⊕ denL T [pv]))
section
variable (T : Tab) (P : Program)
def POk (f : FuncId) (sp : PSpec T) : Prop := ∀ x y, sp.g x = some y → ∀ (w : World) (S : List Nat) (φ : Nat → RA), Sim T w ⟨blksN φ (cntL sp.ps), S, (List.range (cntL sp.ps)).map φ⟩ ⟨[], mkEL T id sp.ps x 0⟩ [] w S φ →
  ∀ vs : List Value, VRL T w S φ (mkAL T id sp.ps x 0) vs → (∀ a ∈ mkAL T id sp.ps x 0, okA (mkEL T id sp.ps x 0) a) →
  Calls P f vs.toArray w fun e w' => match e with
    | .returned v => ∃ z, y.2 = .inl z ∧ ∃ us, AnsG T sp.post sp.rs y.1 z w S φ (cntL sp.ps) w' us ∧ v = packV us
    | .panicked ch => ∃ z, y.2 = .inr z ∧ ∃ u, ch = [{ v := u, recovered := false }] ∧ AnsG T sp.post [sp.pv] y.1 z w S φ (cntL sp.ps) w' [u]
    | .outgrown => False
def PSpec.toCall {T : Tab} (sp : PSpec T) (alt : CallSpec T) : CallSpec T where
  call := fun as H K Kp => match rdSL T H sp.ps as [] with
    | some (x, l) => match nodupN (idsO l) && rowsOk T H (idsO l) sp.post with
      | true => obind (sp.g x) fun y => match y.2 with
        | .inl z => K (packR T (mkAL T (σJ (idsO l) H.length) sp.rs z (sp.post.length + cntP sp.post))) (setIo T H (idsO l) (mkP T (σJ (idsO l) H.length) sp.post y.1 sp.post.length) ++ (mkPN T (σJ (idsO l) H.length) sp.post y.1 sp.post.length ++ mkEL T (σJ (idsO l) H.length) sp.rs z (sp.post.length + cntP sp.post)))
        | .inr z => Kp (packR T (mkAL T (σJ (idsO l) H.length) [sp.pv] z (sp.post.length + cntP sp.post))) (setIo T H (idsO l) (mkP T (σJ (idsO l) H.length) sp.post y.1 sp.post.length) ++ (mkPN T (σJ (idsO l) H.length) sp.post y.1 sp.post.length ++ mkEL T (σJ (idsO l) H.length) [sp.pv] z (sp.post.length + cntP sp.post)))
      | false => none
    | none => alt.call as H K Kp
  q := alt.q
  isq := alt.isq
  wr := fun as H => match rdSL T H sp.ps as [] with | some (_, l) => idsO l | none => alt.wr as H
/-- what a panic tells, read. -/
def leafP (nl : Nl) (post : List PE) (rs : List Sh) (pv : Sh) (a : AV T.U) (st : St T) : Option (denP T post × (denL T rs ⊕ denL T [pv])) :=
  match rdP T (ownNilsB T nl.bn st.H) post 0 (srcP post 0) with
  | some (y, l) => match rdSL T (ownNilsB T nl.bn st.H) [pv] [a] l with
    | some (z, l') => match nodupO l' with | true => some (y, .inr z) | false => none
    | none => none
  | none => none
def leafsP (fn : Func) (nl : Nl) (post : List PE) (rs : List Sh) (pv : Sh) : Ks T (denP T post × (denL T rs ⊕ denL T [pv])) :=
  ⟨fun st => obind (leafG T P fn nl post rs st) fun y => some (y.1, .inl y.2), fun _ _ => none, fun st => obind (leafG T P fn nl post rs st) fun y => some (y.1, .inl y.2), leafP T nl post rs pv⟩
noncomputable def topP (C : Ctx T) (cuts : List (Pos × Cut)) (fn : Func) (c : Code) (nl : Nl) (ps : List Sh) (post : List PE) (rs : List Sh) (pv : Sh) (m : Nat) (x : denL T ps) : Option (denP T post × (denL T rs ⊕ denL T [pv])) :=
  evC P C fn.ntmps cuts (run P C fn.ntmps cuts c (leafsP T P fn nl post rs pv) m) c [] (leafsP T P fn nl post rs pv) ⟨argFA T (mkAL T id ps x 0) 0, mkEL T id ps x 0⟩
end
section
variable {T : Tab} {P : Program} {w w' : World} {S S' : List Nat} {φ φ' : Nat → RA} {w0 : World} {S0 : Ow} {F : AF T} {H : List (Ent T.U)} {F' : PF}
theorem soundCall_P {f : FuncId} {sp : PSpec T} {alt : CallSpec T} (hok : POk T P f sp) (ha : SoundCall T P f alt) : SoundCall T P f (sp.toCall alt) := by
  intro R as H K Kp r hr w0 S0 F F' w S φ h vs hvs has
  simp only [PSpec.toCall] at hr
  split at hr
  · rename_i x l hx
    split at hr
    · rename_i hb
      simp only [Bool.and_eq_true] at hb
      obtain ⟨hn, hro⟩ := hb
      obtain ⟨y, hy, hK⟩ := obind_some hr
      obtain ⟨new, g1, g2, g3⟩ := rdSL_spec sp.ps as [] l x hx
      have hl : l = new.map some := by rw [g1.eq]; rfl
      have hids : idsO l = new := by rw [hl, idsO_map]
      rw [hids] at hn hro hK
      have hno : nodupO l = true := by
        rw [hl]
        clear hK hro hids hx g1 g2 g3 hl
        induction new with
        | nil => rfl
        | cons i r ih =>
          rw [nodupN, Bool.and_eq_true, Bool.not_eq_true'] at hn
          rw [List.map_cons, nodupO, ih hn.2, Bool.and_true, Bool.not_eq_true']
          cases hm : memO i (r.map some) with
          | false => rfl
          | true =>
            have := memO_iff.1 hm
            obtain ⟨j, hj, e⟩ := List.mem_map.1 this
            simp only [Option.some.injEq] at e; subst e
            rw [memN_iff.2 hj] at hn; exact absurd hn.1 (by simp)
      obtain ⟨q1, q2⟩ := g3 _ (places_idx hno)
      obtain ⟨hlen, hrow⟩ := rowsOk_spec hro
      have hnewlen : new.length = cntL sp.ps := g2
      -- what is handed, seen anew
      obtain ⟨c0, x0, p0⟩ := S0
      have hs := (h.unpin.src (l := l) hno (fun k hk => by simp at hk) (fun i e hi he j hj => by
        rw [hl] at hi
        obtain ⟨i', hi', e'⟩ := List.mem_map.1 hi
        simp only [Option.some.injEq] at e'; subst e'
        obtain ⟨e0, h1, _, h3⟩ := g1.ents i' hi'
        rw [he] at h1; simp only [Option.some.injEq] at h1; subst h1
        exact h3 j hj))
      rw [show entsO T H (fun i => idxO i l) l = entsOf T H (fun i => idxO i l) new by rw [hl, entsO_map]] at hs
      have hs := (hs.imp q2).start
      rw [mkEL_len, ← hnewlen] at hs
      have hφc : ∀ k i, new[k]? = some i → φO l φ k = φ i := fun k i hk => φO_at (by rw [hl, List.getElem?_map, hk]; rfl)
      have hvs' : VRL T w S (φO l φ) (mkAL T id sp.ps x 0) vs := q1.vrl (VRL.ren T (fun i hi => φO_idx (g1.ids i hi)) hvs)
      have hoks : ∀ a ∈ mkAL T id sp.ps x 0, okA (mkEL T id sp.ps x 0) a := fun a ha => okA_notEp (mkAL_noEp id _ _ _ a ha) fun i hi => by
        have hi := idsL_mem ha i hi
        rw [show idsL (mkAL T id sp.ps x 0) = _ from q1.ids] at hi
        rw [mkEL_len, ← hnewlen]
        refine renL_ids_le (fun j hj => ?_) i hi
        have := (List.getElem?_eq_some_iff.1 (idxO_spec (g1.ids j hj))).1
        rw [hl, List.length_map] at this
        rw [hl]; exact this
      have step : ∀ (rs : List Sh) (z : denL T rs) (w' : World) (us : List Value), AnsG T sp.post rs y.1 z w S (φO l φ) (cntL sp.ps) w' us →
          ∃ S1 φ2, Sim T w0 ⟨c0, x0, p0⟩ ⟨F, setIo T H new (mkP T (σJ new H.length) sp.post y.1 sp.post.length) ++ (mkPN T (σJ new H.length) sp.post y.1 sp.post.length ++ mkEL T (σJ new H.length) rs z (sp.post.length + cntP sp.post))⟩ F' w' S1 φ2 ∧ VR T w' S1 φ2 (packR T (mkAL T (σJ new H.length) rs z (sp.post.length + cntP sp.post))) (packV us) ∧
            okA (setIo T H new (mkP T (σJ new H.length) sp.post y.1 sp.post.length) ++ (mkPN T (σJ new H.length) sp.post y.1 sp.post.length ++ mkEL T (σJ new H.length) rs z (sp.post.length + cntP sp.post))) (packR T (mkAL T (σJ new H.length) rs z (sp.post.length + cntP sp.post))) := by
        intro rs z w' us hans
        obtain ⟨F1, S1, φ1, k1, k2, k3⟩ := hans
        rw [← hnewlen] at k1
        obtain ⟨φ2, m1, m2⟩ := h.join hn (fun i hi => by obtain ⟨e, a, b, _⟩ := g1.ents i hi; exact ⟨e, a, b⟩) hφc k1 (by rw [mkP_len, hlen]) (fun k i e t ys hk hp => hrow k i e t hk (mkP_row hp))
        rw [mkP_ren, List.map_append, mkPN_ren, mkEL_ren] at m1
        have hv2 : VRL T w' S1 φ2 (mkAL T (σJ new H.length) rs z (sp.post.length + cntP sp.post)) us := by
          rw [← mkAL_ren]
          rw [mkP_len, List.length_append, mkPN_len, mkEL_len] at m2
          generalize mkAL T id rs z (sp.post.length + cntP sp.post) = as9 at k2 k3
          clear m1 k1
          induction as9 generalizing us with
          | nil => cases us <;> exact k2
          | cons a r ih =>
            match us, k2 with
            | u :: us, k2 =>
              rw [renL]
              exact ⟨m2 a u k2.1 fun i hi => k3 i (by rw [idsL]; exact List.mem_append.2 (.inl hi)), ih _ k2.2 fun i hi => k3 i (by rw [idsL]; exact List.mem_append.2 (.inr hi))⟩
        refine ⟨S1, φ2, m1, pack_rel hv2, ?_⟩
        have hlt : ∀ i ∈ idsL (mkAL T (σJ new H.length) rs z (sp.post.length + cntP sp.post)), i < (setIo T H new (mkP T (σJ new H.length) sp.post y.1 sp.post.length) ++ (mkPN T (σJ new H.length) sp.post y.1 sp.post.length ++ mkEL T (σJ new H.length) rs z (sp.post.length + cntP sp.post))).length := by
          rw [← mkAL_ren]
          refine renL_ids_le fun j hj => ?_
          have hj := k3 j hj
          rw [List.length_append, List.length_append, setIo_len, mkPN_len, mkEL_len]
          by_cases hlt : j < new.length
          · have hs := σJ_lo (n := H.length) hlt
            obtain ⟨e, h1, _, _⟩ := g1.ents _ (List.mem_of_getElem? hs)
            have := (List.getElem?_eq_some_iff.1 h1).1
            omega
          · rw [σJ_hi (by omega)]; omega
        have hne : notEp (packR T (mkAL T (σJ new H.length) rs z (sp.post.length + cntP sp.post))) = true := by
          unfold packR
          split
          · rename_i a hl; exact mkAL_noEp (σJ new H.length) rs z _ a (by rw [hl]; simp)
          · rfl
        refine okA_notEp hne fun i hi => hlt i ?_
        unfold packR at hi
        split at hi
        · rename_i a hl; rw [hl, idsL]; exact List.mem_append.2 (.inl hi)
        · rw [AV.ids] at hi; exact hi
      refine (hok x y hy w S (φO l φ) (by rw [← hnewlen]; exact hs) vs hvs' hoks).mono fun e w' hR => ?_
      cases e with
      | returned v =>
        obtain ⟨z, hz, us, hans, rfl⟩ := hR
        rw [hz] at hK
        exact ⟨_, _, hK, step _ z w' us hans⟩
      | panicked ch =>
        obtain ⟨z, hz, u, rfl, hans⟩ := hR
        rw [hz] at hK
        exact ⟨_, _, hK, u, rfl, step _ z w' [u] hans⟩
      | outgrown => exact hR.elim
    · cases hr
  · exact ha as H K Kp r hr w0 S0 F F' w S φ h vs hvs has
theorem detC_P {sp : PSpec T} {alt : CallSpec T} (ha : DetC alt) : DetC (sp.toCall alt) := by
  intro R as H K Kp r hr
  simp only [PSpec.toCall] at hr
  split at hr
  · rename_i x l hx
    split at hr
    · rename_i hb
      obtain ⟨y, hy, hK⟩ := obind_some hr
      simp only [Bool.and_eq_true] at hb
      obtain ⟨hlen, hrow⟩ := rowsOk_spec hb.2
      have hw : (PSpec.toCall sp alt).wr as H = idsO l := by simp only [PSpec.toCall, hx]
      rw [hw]
      have hl : (mkP T (σJ (idsO l) H.length) sp.post y.1 sp.post.length).length = (idsO l).length := by rw [mkP_len, hlen]
      have keeps : ∀ (N : List (Ent T.U)), Keeps T (idsO l) H (setIo T H (idsO l) (mkP T (σJ (idsO l) H.length) sp.post y.1 sp.post.length) ++ N) := by
        intro N
        refine ⟨by rw [List.length_append, setIo_len]; omega, fun e he hn => ?_, fun e ty t ys he h => ?_⟩
        · rw [List.getElem?_append_left (by rw [setIo_len]; exact he)]
          obtain ⟨f, hf⟩ : ∃ f, (setIo T H (idsO l) (mkP T (σJ (idsO l) H.length) sp.post y.1 sp.post.length))[e]? = some f := ⟨_, List.getElem?_eq_getElem (by rw [setIo_len]; exact he)⟩
          rcases setIo_get _ _ H hl hf with ⟨k, g1, _⟩ | ⟨_, g2⟩
          · exact absurd (List.mem_of_getElem? g1) hn
          · rw [hf, g2]
        · rw [List.getElem?_append_left (by rw [setIo_len]; exact he)] at h
          rcases setIo_get _ _ H hl h with ⟨k, g1, g2⟩ | ⟨_, g2⟩
          · exact hrow k e ty t g1 (mkP_row g2)
          · exact ⟨ys, g2⟩
      cases hz : y.2 with
      | inr z =>
        rw [hz] at hK
        exact .inr ⟨_, _, hK, keeps _, fun K' Kp' => by simp only [PSpec.toCall, hx, hb.1, hb.2, Bool.and_self, hy, obind, hz]⟩
      | inl z =>
        rw [hz] at hK
        exact .inl ⟨_, _, hK, keeps _, fun K' Kp' => by simp only [PSpec.toCall, hx, hb.1, hb.2, Bool.and_self, hy, obind, hz]⟩
    · cases hr
  · rename_i hx
    have hw : (PSpec.toCall sp alt).wr as H = alt.wr as H := by simp only [PSpec.toCall, hx]
    rcases ha as H K Kp r hr with ⟨a, H1, h1, h2, h3⟩ | ⟨a, H1, h1, h2, h3⟩
    · exact .inl ⟨a, H1, h1, by rw [hw]; exact h2, fun K' Kp' => by simp only [PSpec.toCall, hx, h3]⟩
    · exact .inr ⟨a, H1, h1, by rw [hw]; exact h2, fun K' Kp' => by simp only [PSpec.toCall, hx, h3]⟩
theorem pOk_of {C : Ctx T} {f : FuncId} {fn : Func} {c : Code} {cuts : List (Pos × Cut)} {ps rs : List Sh} {nl : Nl} {post : List PE} {pv : Sh} {g : denL T ps → Option (denP T post × (denL T rs ⊕ denL T [pv]))} (hm : P.follows .mixedOrders = true) (hE : EnvOk T P C.E)
    (hf : P.funcs[f]? = some fn) (hb : fn.body = some c) (hs : Nat.ble ps.length fn.ntmps = true) (hpin : Nat.ble (cntL ps) C.pin = true) (hpost : Nat.beq post.length (cntL ps) = true)
    (hg : ∀ x y, g x = some y → ∃ m, topP T P C cuts fn c nl ps post rs pv m x = some y) : POk T P f ⟨ps, post, rs, pv, g⟩ := by
  intro x y hy w S φ hsim vs hvs hoks
  obtain ⟨N, hN⟩ := hg x y hy
  have hpost := Nat.eq_of_beq_eq_true hpost
  have hall : (mkAL T id ps x 0).length = ps.length := by
    have : ∀ (l : List Sh) (x : denL T l) (k : Nat), (mkAL T id l x k).length = l.length := by
      intro l
      induction l with
      | nil => intro x k; rfl
      | cons s r ih => intro x k; exact congrArg (· + 1) (ih x.2 _)
    exact this ps x 0
  have hlen : vs.length = ps.length := by rw [← hvs.len T]; exact hall
  have hsz : vs.length ≤ fn.ntmps := by rw [hlen]; exact Nat.le_of_ble_eq_true hs
  have hfr : Fr fn.ntmps [] (argF vs 0) { tmps := vs.toArray ++ Array.replicate (fn.ntmps - vs.toArray.size) undef, defers := [] } := by
    refine ⟨by simp; omega, rfl, fun i v hv => ?_⟩
    obtain ⟨_, h2⟩ := argF_get vs 0 i v hv
    simp only [Nat.sub_zero] at h2
    have hi := (List.getElem?_eq_some_iff.1 h2).1
    refine ⟨?_, by omega⟩
    rw [Array.getD_eq_getD_getElem?, Array.getElem?_append_left (by simpa using hi)]
    simp [h2]
  have hstart := hsim.slots hvs hoks
  have hpin' : ((List.range (cntL ps)).map φ).length ≤ C.pin := by simpa using Nat.le_of_ble_eq_true hpin
  have key : ∀ st y', leafG T P fn nl post rs st = some y' → ∀ F1 w1, Stands T w ⟨blksN φ (cntL ps), S, (List.range (cntL ps)).map φ⟩ st F1 w1 → ∀ a, Fr fn.ntmps [] F1 a → ∃ v, (results fn a.tmps).run P w1 = .ok v w1 ∧
      ∃ us, AnsG T post rs y'.1 y'.2 w S φ (cntL ps) w1 us ∧ v = packV us := by
    intro st0 y' hst F1 w1 hsm0 a ha
    exact leafG_ok hpost hst hsm0 ha
  have hKs : KsOk (bodyPost P fn fun e w' => match e with
      | .returned v => ∃ z, y.2 = .inl z ∧ ∃ us, AnsG T post rs y.1 z w S φ (cntL ps) w' us ∧ v = packV us
      | .panicked ch => ∃ z, y.2 = .inr z ∧ ∃ u, ch = [{ v := u, recovered := false }] ∧ AnsG T post [pv] y.1 z w S φ (cntL ps) w' [u]
      | .outgrown => False) fn.ntmps [] w ⟨blksN φ (cntL ps), S, (List.range (cntL ps)).map φ⟩ y (leafsP T P fn nl post rs pv) := by
    refine ⟨?_, fun i st h => (by cases h), ?_, fun a st h => ?_⟩
    · intro st hst F1 w1 hs1 a ha
      obtain ⟨y', hy', he⟩ := obind_some hst
      simp only [Option.some.injEq] at he
      obtain ⟨v, h1, us, h2, h3⟩ := key st y' hy' F1 w1 hs1 a ha
      subst he
      exact ⟨ha.defers, v, h1, _, rfl, us, h2, h3⟩
    · intro st hst F1 w1 hs1 a ha
      obtain ⟨y', hy', he⟩ := obind_some hst
      simp only [Option.some.injEq] at he
      obtain ⟨v, h1, us, h2, h3⟩ := key st y' hy' F1 w1 hs1 a ha
      subst he
      exact ⟨ha.defers, v, h1, _, rfl, us, h2, h3⟩
    · intro F1 w1 S1 φ1 u hsm hvr hok act ha
      have h : leafP T nl post rs pv a st = some y := h
      obtain ⟨φ1, hsm, hvr, _⟩ := ownNilsB_vr nl.bn hsm (as := [a]) (us := [u]) ⟨hvr, trivial⟩ (fun i hi => hok.1 i (by simpa [idsL] using hi))
      unfold leafP at h
      split at h <;> try (cases h; done)
      rename_i y1 l1 h1
      split at h <;> try (cases h; done)
      rename_i z l2 h2
      split at h <;> try (cases h; done)
      rename_i hn
      simp only [Option.some.injEq] at h; subst h
      exact ⟨ha.defers, z, rfl, u, rfl, ans_of hpost h1 h2 hn hsm hvr⟩
  exact calls_of_wp hf hb (evC_sound hm hpin' hE c [] _ _ _ _ w hN hKs (JOk.run hm hpin' hE hKs N) ⟨S, φ, hstart⟩ _ hfr)
theorem pCall_ok {f : FuncId} {sp : PSpec T} {alt : CallSpec T} (h : POk T P f sp) (ha : SoundCall T P f alt ∧ SoundQ T P f alt ∧ DetC alt) : SoundCall T P f (sp.toCall alt) ∧ SoundQ T P f (sp.toCall alt) ∧ DetC (sp.toCall alt) := ⟨soundCall_P h ha.1, ha.2.1, detC_P ha.2.2⟩
end
end Go.X
