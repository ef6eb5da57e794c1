/- One step of the interpreter, of any sort, is the machine's. Nothing here is about one program. -/
import Derived.Test.YtjjlcenmifcaeaaX8
namespace Go.X
open Go.RowKit Go.V

section
variable {T : Tab} {P : Program} {C : Ctx T} {w w' : World} {S S' : List Nat} {φ φ' : Nat → RA} {w0 : World} {S0 : Ow} {F : AF T} {H : List (Ent T.U)} {F' : PF}
variable {ops : Array Oper} {Q : Exit → Act → World → Prop} {k n : Nat} {ds : List Deferred} {o : Oper}
theorem aevL_len {F : AF T} : ∀ {l : List Operand} {as : List (AV T.U)}, aevL T F l = some as → l.length = as.length
  | [], as, h => by simp only [aevL, Option.some.injEq] at h; subst h; rfl
  | x :: r, as, h => by
    unfold aevL at h
    split at h
    · rename_i a l ha hl
      simp only [Option.some.injEq] at h; subst h
      simp [aevL_len hl]
    · cases h
/-- an operation that only reads. -/
theorem readB_q {Z : Prop} {R : Type} {r : R} (hd : dec ops k n F' = some o) {K0 : AV T.U → Option R} (hs : readB P o ⟨F, H⟩ K0 = some r) (h : Sim T w0 S0 ⟨F, H⟩ F' w S φ)
    (K : ∀ a v, K0 a = some r → QR P F' o S φ (rdOf o F) w v → VR T w S φ a v → okA H a → Z) : Z := by
  unfold readB at hs
  simp only at hs
  split at hs
  · rename_i a ha
    split at hs
    · rename_i hm
      obtain ⟨v, h1, h2⟩ := pureA_run (P := P) ha h.fr o rfl
      exact K _ v hs (fun w1 _ _ => h1 w1) h2 (pureA_ok h ha hm)
    · cases hs
  · split at hs
    · rename_i hop
      split at hs
      · rename_i hc hx hy
        exact pick_q hd hop hc hx hy hs h K
      · cases hs
    · rename_i hop
      split at hs
      · rename_i hx hy
        exact div_q hd hop hx hy hs h K
      · cases hs
    · rename_i hop
      split at hs
      · rename_i p hx
        split at hs
        · rename_i a hl; exact load_q hd hop hx hl h (fun i hi => by unfold rdOf; rw [hop]; simp only [hx]; exact hi) fun v => K _ v hs
        · cases hs
      · cases hs
    · rename_i hop
      split at hs
      · rename_i hs1 hd1 ha
        split at hs
        · rename_i he
          exact convert_q hop ha hs1 hd1 he hs (fun i hi => by simp only [rdOf, hop, ha]; exact hi) h K
        · cases hs
      · cases hs
    · rename_i t0 x0 y0 hop
      split at hs
      · rename_i s0 j0 hu hx hy
        unfold strAt at hs
        split at hs
        · rename_i b hb
          obtain ⟨X, h1, h2⟩ := aev_rel h.fr hx
          obtain ⟨Y, h3, h4⟩ := aev_rel h.fr hy
          have e1 := cstr_rel h2; have e2 := cint_rel h4; subst e1; subst e2
          refine K _ (.int .u8 b.toNat) hs (fun w1 _ _ => ?_) (VR.int _ _) (cI_ok _ _)
          simp only [execOp, hop, evD_of h1, evD_of h3, Instr.index, asIntOf, Sem.run_bind, Sem.run_pure, Result.andThen_ok, run_underlying hu]
          rw [hb]; rfl
        · cases hs
      · cases hs
    · rename_i hop
      split at hs
      · rename_i hx hy
        exact index_q hd hop hx hy hs h K
      · cases hs
    · rename_i hop
      split at hs
      · rename_i hx hlo hhi
        split at hs
        · cases hs
        · rename_i hne
          refine slice_q hd hop hx hlo hhi ?_ hs h K
          grind
      · cases hs
    · rename_i x0 xt0 at0 ok0 hop
      split at hs
      · rename_i a hx
        split at hs
        · rename_i b hb
          split at hs
          · rename_i hne
            obtain ⟨v, h1, h2⟩ := aev_rel h.fr hx
            obtain ⟨u, h3, h4⟩ := assertA_run (xt := xt0) hb h2
            refine K _ u hs (fun w1 _ _ => ?_) h4 (okA_notEp hne fun i hi => (aev_ok h hx).1 i (assertA_ids hb i hi))
            simp [execOp, hop, evD_of h1, h3]
          · cases hs
        · cases hs
      · cases hs
    · rename_i c hop
      split at hs
      · cases hs
      · rename_i as has
        have h5 := aevL_rel h.fr has
        split at hs
        · rename_i hc
          split at hs
          · rename_i a t hat
            split at hs
            · rename_i z hz
              have e1 := toList_eq_one hat
              have hv : ∃ v, (c.args.map (evD F')) = #[v] ∧ VR T w S φ a v := by
                have h6 : VRL T w S φ [a] (c.args.toList.map (evD F')) := h5
                match hm : c.args.toList.map (evD F'), h6 with
                | [v], h6 => exact ⟨v, toList_eq_one (by simpa using hm), h6.1⟩
              obtain ⟨v, hv1, hv2⟩ := hv
              exact K _ _ hs (fun w1 _ _ => by simp [execOp, hop, resolve, hc, invoke, hv1, e1, builtin, lenOf_rel hz h hv2]) (VR.int _ _) (cI_ok _ _)
            · split at hs
              · rename_i z hz
                have e1 := toList_eq_one hat
                have hv : ∃ v, (c.args.map (evD F')) = #[v] ∧ VR T w S φ a v := by
                  have h6 : VRL T w S φ [a] (c.args.toList.map (evD F')) := h5
                  match hm : c.args.toList.map (evD F'), h6 with
                  | [v], h6 => exact ⟨v, toList_eq_one (by simpa using hm), h6.1⟩
                obtain ⟨v, hv1, hv2⟩ := hv
                refine K _ _ hs (fun w1 _ hsm => ?_) (VR.int _ _) (cI_ok _ _)
                have hsm' : Same φ (mpIds [a]) w w1 := fun i hi => hsm i (by unfold rdOf; rw [hop]; simp only [hc, has]; exact hi)
                simp [execOp, hop, resolve, hc, invoke, hv1, e1, builtin, lenM_q hz h hv2 _ hsm']
              · cases hs
          · cases hs
        · rename_i hc
          split at hs
          · rename_i a ha
            obtain ⟨v, h1, h2, h3⟩ := minA_rel (P := P) (H := H) ha h5 c.argTypes o.type
            have h1' : ∀ w, (Builtin.min_ c.argTypes o.type (c.args.map (evD F'))).run P w = .ok v w := fun w => by simpa [← Array.toList_map] using h1 w
            exact K _ v hs (fun w1 _ _ => by simp [execOp, hop, resolve, hc, invoke, builtin, h1']) h2 h3
          · cases hs
        · rename_i hc
          split at hs
          · rename_i a ha
            obtain ⟨v, h1, h2, h3⟩ := maxA_rel (P := P) (H := H) ha h5 c.argTypes o.type
            have h1' : ∀ w, (Builtin.max_ c.argTypes o.type (c.args.map (evD F'))).run P w = .ok v w := fun w => by simpa [← Array.toList_map] using h1 w
            exact K _ v hs (fun w1 _ _ => by simp [execOp, hop, resolve, hc, invoke, builtin, h1']) h2 h3
          · cases hs
        · cases hs
    · cases hs
theorem elemD_spec {t : TypeId} {n0 sz : Nat} (hai : arrInfo P t = some (n0, sz)) (h : elemD P t = true) : ∃ e d, P.underlying t = some (.array n0 e) ∧ P.underlying e = some d ∧ aggD d = false := by
  obtain ⟨e, inf, hu, _, _, _⟩ := arrInfo_spec hai
  unfold elemD at h
  rw [hu] at h
  simp only at h
  split at h
  · rename_i d hd
    exact ⟨e, d, hu, hd, by simpa using h⟩
  · cases h
theorem read_q {Z : Prop} {R : Type} {r : R} (hd : dec ops k n F' = some o) {K0 : AV T.U → Option R} (hs : readA P o ⟨F, H⟩ K0 = some r) (h : Sim T w0 S0 ⟨F, H⟩ F' w S φ)
    (K : ∀ a v, K0 a = some r → QR P F' o S φ (rdOf o F) w v → VR T w S φ a v → okA H a → Z) : Z := by
  unfold readA at hs
  split at hs
  · unfold readR at hs
    simp only at hs
    split at hs
    · rename_i hop
      split at hs
      · rename_i hai hx hy; exact indexR_q hd hop hai hx hy hs h K
      · cases hs
    · rename_i hop
      split at hs
      · rename_i hai hx hy hel
        obtain ⟨e, d, q1, q2, q3⟩ := elemD_spec hai hel
        exact indexV_q hop hai q1 q2 q3 hx hy hs h K
      · cases hs
    · rename_i hop
      split at hs
      · rename_i hai hx hlo hhi; exact sliceR_q hd hop hai hx hlo hhi hs h K
      · cases hs
    · rename_i hop
      split at hs
      · rename_i hai hx; exact arrOf_q hop hai hx hs h K
      · cases hs
    · rename_i t x hop
      split at hs
      · rename_i n0 sz p hai hx
        have hrd : ∀ i ∈ p.ids, i ∈ rdOf o F := fun i hi => by unfold rdOf; rw [hop]; simp only [hx]; exact hi
        refine loadR_q hd hop hai (fun hok => ?_) hx hs h hrd K fun hD => ?_
        · unfold sizeT
          split at hok
          · rename_i inf hinf; rw [hinf]; exact congrArg some (Nat.eq_of_beq_eq_true hok)
          · cases hok
        · obtain ⟨a, hl, hK⟩ := obind_some hD
          exact load_q hd hop hx hl h hrd fun v => K _ v hK
      · cases hs
    · rename_i hop
      split at hs
      · rename_i a hx
        split at hs
        · rename_i hsa
          obtain ⟨v, h1, h2⟩ := aev_rel h.fr hx
          exact K _ v hs (someA_run hop hsa h1 h2) h2 (aev_ok h hx)
        · cases hs
      · cases hs
    · rename_i hop
      split at hs
      · rename_i m kx x hm hk
        have hrd : ∀ i ∈ m.ids, i ∈ rdOf o F := fun i hi => by unfold rdOf; rw [hop]; simp only [hm]; exact hi
        refine lookA_q hd hop hm hk hs h hrd fun a v hK hq hv hi => ?_
        split at hK
        · rename_i hne; exact K _ v hK hq hv (okA_notEp hne hi)
        · cases hK
      · cases hs
    · cases hs
  · exact readB_q hd hs h K
theorem step_call {R : Type} {r : R} (hE : EnvOk T P C.E) {c : Call} (hd : dec ops k n F' = some o) (hop : o.op = .call c) {K : AV T.U → List (Ent T.U) → Option R} {Kp : AV T.U → List (Ent T.U) → Option R} (hs : callA P C c ⟨F, H⟩ K Kp = some r) (h : Sim T w0 S0 ⟨F, H⟩ F' w S φ)
    (HK : ∀ b H1, K b H1 = some r → Kont P ops Q (k + 1) n ds w0 S0 (⟨updA T F o.dst b, H1⟩ : St T)) (HP : ∀ b H1, Kp b H1 = some r → PKont Q n ds w0 S0 b (⟨F, H1⟩ : St T)) : WR P ops Q k n ds F' w := by
  unfold callA at hs
  split at hs
  · cases hs
  · rename_i as has
    have h5 := aevL_rel h.fr has
    split at hs
    · rename_i f hc
      split at hs
      · rename_i g first caps hf
        split at hs
        · rename_i cs he hcs
          split at hs
          · rename_i hall
            exact callV_wr hd hop hc hf has he (hE g cs hcs).1 hall hs h HK HP
          · cases hs
        · cases hs
      · cases hs
    · rename_i hc
      split at hs
      · rename_i s x t t' hat
        split at hs
        · rename_i e htt he
          have := Nat.eq_of_beq_eq_true htt; subst this
          match hl : c.args.toList, has with
          | [x0, y0], has =>
            unfold aevL at has
            split at has
            · rename_i a1 l1 hx hl1
              simp only [Option.some.injEq, List.cons.injEq] at has
              obtain ⟨rfl, rfl⟩ := has
              unfold aevL at hl1
              split at hl1
              · rename_i a2 l2 hy hl2
                simp only [Option.some.injEq, List.cons.injEq] at hl1
                obtain ⟨rfl, rfl⟩ := hl1
                exact append_wr hd hop hc hl hat hx hy hs h HK
              · cases hl1
            · cases has
          | [], has => exact absurd (aevL_len has) (by simp)
          | [x0], has => exact absurd (aevL_len has) (by simp)
          | x0 :: y0 :: z0 :: r0, has => exact absurd (aevL_len has) (by simp)
        · cases hs
      · cases hs
    · rename_i hc
      split at hs
      · rename_i s t hat
        match hl : c.args.toList, has with
        | [x0], has =>
          unfold aevL at has
          split at has
          · rename_i a1 l1 hx hl1
            simp only [Option.some.injEq, List.cons.injEq] at has
            obtain ⟨rfl, rfl⟩ := has
            exact clear_wr hd hop hc hl hat hx hs h HK
          · cases has
        | [], has => exact absurd (aevL_len has) (by simp)
        | x0 :: y0 :: r0, has => exact absurd (aevL_len has) (by simp)
      · cases hs
    · rename_i hc
      split at hs
      · rename_i m kx x t at2 hat
        split at hs
        · rename_i H1 hdl
          match hl : c.args.toList, has with
          | [x0, y0], has =>
            unfold aevL at has
            split at has
            · rename_i a1 l1 hx hl1
              simp only [Option.some.injEq, List.cons.injEq] at has
              obtain ⟨rfl, rfl⟩ := has
              unfold aevL at hl1
              split at hl1
              · rename_i a2 l2 hy hl2
                simp only [Option.some.injEq, List.cons.injEq] at hl1
                obtain ⟨rfl, rfl⟩ := hl1
                exact delete_wr hd hop hc hl hat hx hy hdl h (HK _ _ hs)
              · cases hl1
            · cases has
          | [], has => exact absurd (aevL_len has) (by simp)
          | [x0], has => exact absurd (aevL_len has) (by simp)
          | x0 :: y0 :: z0 :: r0, has => exact absurd (aevL_len has) (by simp)
        · cases hs
      · cases hs
    · cases hs
theorem step_sound {R : Type} {r : R} (hE : EnvOk T P C.E) (hd : dec ops k n F' = some o) {K : St T → Option R} {Kp : AV T.U → St T → Option R} (hs : stepA P C o ⟨F, H⟩ K Kp = some r) (h : Sim T w0 S0 ⟨F, H⟩ F' w S φ)
    (HK : ∀ st, K st = some r → Kont P ops Q (k + 1) n ds w0 S0 st) (HP : ∀ a st, Kp a st = some r → PKont Q n ds w0 S0 a st) : WR P ops Q k n ds F' w := by
  have hread : readA P o ⟨F, H⟩ (fun a => K ⟨updA T F o.dst a, H⟩) = some r → WR P ops Q k n ds F' w := fun hs =>
    read_q hd hs h fun a v hK hq hv hok => val_wr hd (hq w (Chg.refl _ _) fun _ _ _ _ _ => rfl) h hv hok (HK _ hK)
  unfold stepA at hs
  simp only at hs
  split at hs
  · rename_i hop
    split at hs
    · rename_i cs hz
      split at hs
      · rename_i cs' hl; exact allocL_wr hd hop hz hl h (HK _ hs)
      · cases hs
    · cases hs
  · rename_i hop
    split at hs
    · rename_i a ha
      split at hs
      · rename_i cs hb
        obtain ⟨g1, g2⟩ := boxA_rel hb
        exact box_wr hd hop ha (fun _ _ _ _ hv => g2 hv) g1 h (HK _ hs)
      · cases hs
    · cases hs
  · rename_i hop
    split at hs
    · rename_i kd kt et hmk _; exact mkMap_wr hd hop hmk h (HK _ hs)
    · rename_i kd kt et ty hmk _; exact mkTmap_wr hd hop hmk h (HK _ hs)
    · cases hs
  · rename_i hop
    split at hs
    · rename_i hdst hm hx hv
      split at hs
      · rename_i H1 hne hi; exact insert_wr hd (.inl hop) hdst hm hx hv hi h (HK _ hs)
      · cases hs
    · cases hs
  · rename_i hop
    split at hs
    · rename_i hdst hm hx hv
      split at hs
      · rename_i H1 hne hi; exact insert_wr hd (.inr hop) hdst hm hx hv hi h (HK _ hs)
      · cases hs
    · cases hs
  · rename_i hop
    split at hs
    · rename_i hdst hx hy
      split at hs
      · rename_i H1 hl; exact store_wr hd hop hdst hx hy hl h (HK _ hs)
      · cases hs
    · cases hs
  · rename_i hop
    split at hs
    · rename_i hx hy he
      exact make_wr hd hop hx hy hs h fun a H1 ha => HK _ ha
    · cases hs
  · rename_i hop
    split at hs
    · rename_i l ty hl he
      split at hs
      · rename_i e xs hb; exact bslice_wr hd hop hl hb h (HK _ hs)
      · cases hs
    · rename_i l hl he
      split at hs
      · rename_i e sz cs hb; exact bsliceB_wr hd hop hl hb h (HK _ hs)
      · cases hs
    · cases hs
  · rename_i hop
    split at hs
    · exact hread hs
    · exact step_call hE hd hop hs h (fun b H1 hb => HK _ hb) fun b H1 hb => HP _ _ hb
  · rename_i s d x hop
    split at hs
    · rename_i e b h1 h2 h3
      split at hs
      · rename_i h4; exact convStr_wr hd hop h3 h1 h2 h4 h (HK _ hs)
      · cases hs
    · rename_i e i h1 h2 h3
      split at hs
      · rename_i y xs hb _ h4 h5
        have := Nat.eq_of_beq_eq_true hb; subst this
        replace h5 : (match H[i]? with | some (.row _ ty' xs) => if h : ty' = .int .u8 then some (h ▸ xs : List (den T.U (.int .u8))) else none | _ => none) = some (y :: xs) := h5
        split at h5 <;> try (cases h5; done)
        rename_i et ty' zs hi
        split at h5 <;> try (cases h5; done)
        rename_i ht
        subst ht
        have h5 : zs = y :: xs := Option.some.inj h5
        subst h5
        exact convSl_wr hd hop h3 h2 h4 hi (by simp) h (HK _ hs)
      · cases hs
    · exact hread hs
  · rename_i x hop
    split at hs
    · rename_i t a hx
      obtain ⟨X, h1, u, rfl, h2⟩ := aev_rel h.fr hx
      have hrun : (execOp (evD F') o).run P w = .halt (.panic (.iface t u)) w := by
        simp [execOp, hop, evD_of h1, Instr.panic, goPanic]
      exact .throw hd hrun fun act hact => HP _ _ hs F' w S φ (.iface t u) h ⟨u, rfl, h2⟩ (aev_ok h hx) act hact
    · cases hs
  · exact hread hs
end
end Go.X
