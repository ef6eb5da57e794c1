/- A region of a drawn order is sound. Nothing here is about one program. -/
import Derived.Test.YtjjlcenmifcaeaaXH
namespace Go.X
open Go.RowKit Go.V

section
variable {T : Tab} {P : Program} {C : Ctx T} {ops : Array Oper} {n B : Nat} {F0 : AF T} {H0 : List (Ent T.U)} {rs : List (Rec T)}
variable {w w' : World} {S : List Nat} {φ : Nat → RA} {w0 : World} {S0 : Ow} {Q : Exit → Act → World → Prop} {ds : List Deferred}
/-- what stands behind those operations of which D tells. -/
def StD (rs : List (Rec T)) (F0 : AF T) (H0 : List (Ent T.U)) (n N : Nat) (D : Nat → Bool) : St T := ⟨mkF (fF D rs (F0.get T)) n, mkH N (hF D rs (base H0))⟩
theorem TrOk.slotD (hk : OkD ops n) (h : TrOk P C ops n B F0 H0 rs) {D : Nat → Bool} {j : Nat} {r : Rec T} (hr : rs[j]? = some r) (hlen : rs.length = ops.size) (hpre : ∀ k, Tp ops j k → D k = true) (hcl : ∀ i k, D i = true → Tp ops i k → D k = true) (hD : D j = false) {t : Nat} (ht : t ∈ opTmps r.o ++ guardTmp ops r.o) : fF D rs (F0.get T) t = fF allD (rs.take j) (F0.get T) t := by
  have hop := (h j r hr).op
  rw [h.idx hr] at hop
  rcases hk.reads hop ht with ⟨k, hk1, hk2⟩ | hno
  · have hkj := Tp.lt hk.back (.one hk1) (Array.getElem?_eq_some_iff.1 hop).1
    have hkl : k < rs.length := by have := (List.getElem?_eq_some_iff.1 hr).1; omega
    have hg := List.getElem?_eq_getElem hkl
    have hopk := (h k _ hg).op
    rw [h.idx hg] at hopk
    have hd : rs[k].o.dst = some t := by rw [← dstOf_of hopk]; exact hk2
    have hm := List.mem_of_getElem? hg
    rw [fF_at hm hd fun q hq hd' => h.uniq hk hq hm hd' hd, fF_at (take_mem hkj hg) hd fun q hq hd' => h.uniq hk (List.mem_of_mem_take hq) hm hd' hd, h.idx hg, hpre k (.one hk1)]
    rfl
  · have late : ∀ q ∈ rs, q.o.dst = some t → ∃ i, rs[i]? = some q ∧ i < ops.size ∧ Tp ops i j := fun q hq hd => by
      obtain ⟨i, hi⟩ := List.mem_iff_getElem?.1 hq
      have hopi := (h i q hi).op
      rw [h.idx hi] at hopi
      have hlt := (Array.getElem?_eq_some_iff.1 hopi).1
      exact ⟨i, hi, hlt, hno i hlt (by rw [dstOf_of hopi]; exact hd)⟩
    have htake : fF allD (rs.take j) (F0.get T) t = F0.get T t := fF_none fun q hq hd => by
      obtain ⟨k, hkj, hqk⟩ := take_mem' hq
      obtain ⟨i, hi, hlt, tp⟩ := late q (List.mem_of_mem_take hq) hd
      have e : i = k := by rw [← h.idx hi, ← h.idx hqk]
      subst e
      have := Tp.lt hk.back tp hlt
      omega
    rw [htake]
    by_cases hw : ∃ q ∈ rs, q.o.dst = some t
    · obtain ⟨q, hq, hd⟩ := hw
      obtain ⟨i, hi, _, tp⟩ := late q hq hd
      rw [fF_at hq hd fun q' hq' hd' => h.uniq hk hq' hq hd' hd, h.idx hi]
      cases hDi : D i with
      | false => rfl
      | true => have := hcl i j hDi tp; rw [hD] at this; cases this
    · exact fF_none fun q hq hd => hw ⟨q, hq, hd⟩
theorem TrOk.slotPut (hk : OkD ops n) (h : TrOk P C ops n B F0 H0 rs) {D : Nat → Bool} {j : Nat} {r : Rec T} (hr : rs[j]? = some r) (t : Nat) : fF (withD D j) rs (F0.get T) t = if r.o.dst = some t then some r.a else fF D rs (F0.get T) t := by
  by_cases hw : ∃ q ∈ rs, q.o.dst = some t
  · obtain ⟨q, hq, hd⟩ := hw
    rw [fF_at hq hd fun q' hq' hd' => h.uniq hk hq' hq hd' hd, fF_at hq hd fun q' hq' hd' => h.uniq hk hq' hq hd' hd]
    obtain ⟨i, hqi⟩ := List.mem_iff_getElem?.1 hq
    by_cases hij : i = j
    · subst hij
      rw [hr] at hqi; have := Option.some.inj hqi; subst this
      rw [if_pos hd]
      unfold withD
      rw [h.idx hr, if_pos rfl]
    · have : r.o.dst ≠ some t := fun hd' => hij (by
        have := h.uniq hk hq (List.mem_of_getElem? hr) hd hd'
        subst this
        rw [← h.idx hqi, ← h.idx hr])
      rw [if_neg this]
      unfold withD
      rw [h.idx hqi, if_neg hij]
  · have none : ∀ q ∈ rs, q.o.dst ≠ some t := fun q hq hd => hw ⟨q, hq, hd⟩
    rw [fF_none none, fF_none none, if_neg (none r (List.mem_of_getElem? hr))]
theorem act_put {a : Act} {dst : Option Tmp} {v : Value} {n : Nat} (hs : a.tmps.size = n) (hd : okDst n dst = true) : (a.put dst v).tmps.size = n ∧ (a.put dst v).defers = a.defers ∧ ∀ t, t < n → (a.put dst v).tmps.getD t undef = if dst = some t then v else a.tmps.getD t undef := by
  cases dst with
  | none => exact ⟨hs, rfl, fun t _ => by rw [if_neg (by simp)]; rfl⟩
  | some d =>
    have hdn : d < n := by simpa [okDst, Nat.blt_eq] using hd
    refine ⟨by simpa [Act.put] using hs, rfl, fun t ht => ?_⟩
    simp only [Act.put]
    rw [Array.getD_eq_getD_getElem?, Array.getElem?_setIfInBounds, Array.getD_eq_getD_getElem?]
    by_cases hdt : d = t
    · subst hdt; rw [if_pos rfl, if_pos (by omega), if_pos rfl]; rfl
    · rw [if_neg hdt, if_neg (by simpa using hdt)]
/-- a slot more is known. -/
theorem slot_put (hk : OkD ops n) (h : TrOk P C ops n B F0 H0 rs) {D : Nat → Bool} {j N : Nat} {r : Rec T} (hr : rs[j]? = some r) {H2 : List (Ent T.U)} {a : Act} {v : Value} (hsz : a.tmps.size = n) (hs : Sim T w0 S0 ⟨mkF (fF D rs (F0.get T)) n, H2⟩ (fullF a n) w S φ)
    (hv : r.o.dst ≠ none → VR T w S φ r.a v ∧ okA H2 r.a) : Sim T w0 S0 ⟨mkF (fF (withD D j) rs (F0.get T)) n, H2⟩ (fullF (a.put r.o.dst v) n) w S φ := by
  obtain ⟨_, _, hget⟩ := act_put (v := v) hsz (h j r hr).dst
  refine ⟨fun t b hb => ?_, fun t b hb => ?_, hs.chg, hs.own, hs.ex, hs.lives, hs.pins, hs.ents, hs.eids, hs.apart⟩
  · obtain ⟨ht, hb⟩ := mkF_get.1 hb
    rw [h.slotPut hk hr] at hb
    split at hb
    · rename_i hd
      simp only [Option.some.injEq] at hb; subst hb
      exact ⟨v, fullF_get.2 ⟨ht, by rw [hget t ht, if_pos hd]⟩, (hv (by rw [hd]; simp)).1⟩
    · rename_i hd
      obtain ⟨u, hu, hur⟩ := hs.fr t b (mkF_get.2 ⟨ht, hb⟩)
      exact ⟨u, fullF_get.2 ⟨ht, by rw [hget t ht, if_neg hd]; exact (fullF_get.1 hu).2⟩, hur⟩
  · obtain ⟨ht, hb⟩ := mkF_get.1 hb
    rw [h.slotPut hk hr] at hb
    split at hb
    · rename_i hd
      simp only [Option.some.injEq] at hb; subst hb
      exact (hv (by rw [hd]; simp)).2
    · exact hs.ids t b (mkF_get.2 ⟨ht, hb⟩)
theorem stepD (hk : OkD ops n) (hE : EnvOk T P C.E) (h : TrOk P C ops n B F0 H0 rs) (hlen : rs.length = ops.size) (hB : H0.length = B) (hF0 : ∀ t a, F0.get T t = some a → t < n ∧ ∀ i ∈ a.ids, i < B) (hH0 : ∀ f ∈ H0, ∀ i ∈ f.cellIds, i < B) (hpin : S0.pin.length ≤ B)
    {N : Nat} (hN : ∀ q ∈ rs, q.d.ne ≤ N) {D : Nat → Bool} (hcl : ∀ i k, D i = true → Tp ops i k → D k = true) {j : Nat} {r : Rec T} (hr : rs[j]? = some r) (hD : D j = false) (hpre : ∀ k, Tp ops j k → D k = true) (hsk : r.skip = false) (hln : r.loc = none)
    {a : Act} (hsz : a.tmps.size = n) (hdf : a.defers = ds) (hs : Sim T w0 S0 (StD rs F0 H0 n N D) (fullF a n) w S φ) :
    r.o.wp P a w (fun a' w' => a'.tmps.size = n ∧ a'.defers = ds ∧ ∃ S1 φ1, Sim T w0 S0 (StD rs F0 H0 n N (withD D j)) (fullF a' n) w' S1 φ1) Q := by
  have hrk := h j r hr
  have htk := hrk.take hsk hln
  have hnN := hN r (List.mem_of_getElem? hr)
  have htch : ∀ e ∈ r.d.tch, hF D rs (base H0) e = hF allD (rs.take j) (base H0) e := fun e he => h.touch hcl hr hsk hln hD hpre he
  have hHm : ∀ (e : Nat) (f : Ent T.U), r.Hm[e]? = some f → f = .gone ∨ (e ∈ r.d.tch ∧ (mkH N (hF D rs (base H0)))[e]? = some f) := by
    intro e f hf
    have hlt := (List.getElem?_eq_some_iff.1 hf).1
    rw [htk.hlen] at hlt
    rw [htk.hm e hlt] at hf
    simp only [Option.some.injEq] at hf
    split at hf
    · rename_i he
      exact .inr ⟨he, mkH_get.2 ⟨by have := hrk.le.2; omega, by rw [htch e he]; exact hf⟩⟩
    · exact .inl hf.symm
  -- what the operation sees
  have hsub : Sim T w ⟨r.d.tch.flatMap fun e => (φ e).all, S, (List.range r.d.nb).map φ⟩ ⟨r.F, r.Hm⟩ (fullF a n) w S φ := by
    have hfr : ∀ t x, r.F.get T t = some x → (mkF (fF D rs (F0.get T)) n).get T t = some x := by
      intro t x hx
      obtain ⟨h1, h2⟩ := htk.fr t x hx
      have h3 := h.slotD hk hr hlen hpre hcl hD (t := t) (List.mem_append.2 (.inl h1))
      refine mkF_get.2 ⟨?_, by rw [h3]; exact h2⟩
      by_cases hw : ∃ q ∈ rs.take j, q.o.dst = some t
      · obtain ⟨q, hq, hd⟩ := hw
        obtain ⟨i, _, hqi⟩ := take_mem' hq
        have hopi := (h i q hqi).op
        exact hk.dst q.d.j t (Array.getElem?_eq_some_iff.1 hopi).1 (by rw [dstOf_of hopi]; exact hd)
      · rw [fF_none fun q hq hd => hw ⟨q, hq, hd⟩] at h2
        exact (hF0 t x h2).1
    refine ⟨fun t x hx => hs.fr t x (hfr t x hx), fun t x hx => ⟨fun i hi => by simp only [htk.hlen]; exact htk.fid t x hx i hi, ?_⟩, Chg.refl _ _, fun b hb => ⟨.inl hb, (hs.own b hb).2⟩, fun b hb _ _ => hb, fun e f hf hl x hx => ?_, fun k q hq => ?_, fun e f hf => ?_, fun e f hf i hi => by simp only [htk.hlen]; exact htk.eids f (List.mem_of_getElem? hf) i hi, fun i k f f' hf hf' hl hl' hik x y hx hy => ?_⟩
    · obtain ⟨_, h2⟩ := hs.ids t x (hfr t x hx)
      cases x with
      | eptr y sz k c =>
        intro e1 t1 xs hxs
        rcases hHm y _ hxs with h3 | ⟨_, h3⟩
        · cases h3
        · exact h2 e1 t1 xs h3
      | _ => trivial
    · rcases hHm e f hf with rfl | ⟨h1, h2⟩
      · cases hl
      · exact ⟨(hs.lives e f h2 hl x hx).1, .inl (List.mem_flatMap.2 ⟨e, h1, mem_all.2 ⟨x, hx, rfl⟩⟩)⟩
    · have hlt := (List.getElem?_eq_some_iff.1 hq).1
      simp at hlt
      simp [hlt] at hq
      exact ⟨.of hq, by simp only [htk.hlen]; exact hlt⟩
    · rcases hHm e f hf with rfl | ⟨_, h2⟩
      · trivial
      · exact hs.ents e f h2
    · rcases hHm i f hf with rfl | ⟨_, h2⟩
      · cases hl
      · rcases hHm k f' hf' with rfl | ⟨_, h2'⟩
        · cases hl'
        · exact hs.apart i k f f' h2 h2' hl hl' hik x y hx hy
  obtain ⟨Fz, hstep⟩ := htk.step
  have hop := op_soundF (Q := Q) (ds := ds) hE hstep hrk.dst htk.ns htk.pre hsub (fullF_fr hsz hdf)
  refine Oper.wp_mono (fun a' w' hX => ?_) hop
  obtain ⟨F1, ⟨S1, φ1, hst⟩, hfr1, v, rfl⟩ := hX
  obtain ⟨hsz', hdf', hget⟩ := act_put (v := v) hsz hrk.dst
  refine ⟨hsz', by rw [hdf', hdf], ?_⟩
  have hup : ∀ e, hF (withD D j) rs (base H0) e = (upR r e).getD (hF D rs (base H0) e) := fun e => (h.put hcl hr hD e).trans (upG_none hln ..)
  have hnb := hrk.le.2
  obtain ⟨φ2, g1, g2⟩ := hs.frame2 (tch := r.d.tch) (nb := r.d.nb) hst (by rw [htk.ne]; exact hnb) (by rw [mkH_len, htk.ne]; exact hnN) (by have := hrk.le.1; omega)
    (fun e he => ⟨(htk.live e he).1, _, mkH_get.2 ⟨by have := (htk.live e he).1; omega, rfl⟩, by rw [htch e he]; exact (htk.live e he).2⟩)
    (fun e h1 h2 => mkH_get.2 ⟨by rw [htk.ne] at h2; omega, h.free hB hcl hr hD h1 (by rw [← htk.ne]; exact h2)⟩) (H2 := mkH N (hF (withD D j) rs (base H0))) (by rw [mkH_len, mkH_len])
    (fun e f hf => by
      obtain ⟨he, hf⟩ := mkH_get.1 hf
      rw [hup] at hf
      by_cases ht : e ∈ r.d.tch
      · refine .inl ⟨ht, ?_⟩
        have hlt := (htk.live e ht).1
        have hg : r.H1[e]? = some (r.H1[e]'(by rw [htk.ne]; omega)) := List.getElem?_eq_getElem _
        by_cases hw : e ∈ r.d.wr
        · have : upR r e = r.H1[e]? := by unfold upR; rw [hsk, hln]; simp only; rw [if_pos hlt, if_pos ⟨ht, hw⟩]
          rw [this, hg, Option.getD_some] at hf
          rw [hg, hf]
        · have : upR r e = none := by unfold upR; rw [hsk, hln]; simp only; rw [if_pos hlt, if_neg (fun q => hw q.2)]
          rw [this, Option.getD_none] at hf
          rw [htk.keeps.same e (by rw [htk.hlen]; exact hlt) hw, htk.hm e hlt, if_pos ht, ← htch e ht, hf]
      · by_cases hin : r.d.nb ≤ e ∧ e < r.d.ne
        · refine .inr (.inl ⟨hin.1, ?_⟩)
          have hg : r.H1[e]? = some (r.H1[e]'(by rw [htk.ne]; exact hin.2)) := List.getElem?_eq_getElem _
          have : upR r e = r.H1[e]? := by unfold upR; rw [hsk, hln]; simp only; rw [if_neg (by omega)]
          rw [this, hg, Option.getD_some] at hf
          rw [hg, hf]
        · have : upR r e = none := by
            unfold upR; rw [hsk, hln]; simp only
            by_cases hlt : e < r.d.nb
            · rw [if_pos hlt, if_neg (fun q => ht q.1)]
            · rw [if_neg hlt, List.getElem?_eq_none (by rw [htk.ne]; omega)]
          rw [this, Option.getD_none] at hf
          exact .inr (.inr ⟨ht, by rw [htk.ne]; omega, mkH_get.2 ⟨he, hf⟩⟩))
    (fun e ty t ys he hy => by
      have hlt := (htk.live e he).1
      obtain ⟨xs, hx⟩ := htk.keeps.row e ty t ys (by rw [htk.hlen]; exact hlt) hy
      rcases hHm e _ hx with h3 | ⟨_, h3⟩
      · cases h3
      · exact ⟨xs, h3⟩)
    (fun t x hx => by
      rw [htk.ne]
      exact h.fid hk (fun t a ha => (hF0 t a ha).2) hcl hr hD (mkF_get.1 hx).2)
    (fun e f hf _ => by
      rw [htk.ne]
      obtain ⟨_, rfl⟩ := mkH_get.1 hf
      exact h.hid hH0 hcl hr hD)
  refine ⟨S1, φ2, slot_put hk h (N := N) hr hsz g1 fun hdn => ?_⟩
  obtain ⟨d, hd⟩ : ∃ d, r.o.dst = some d := by
    cases hd : r.o.dst with
    | none => exact absurd hd hdn
    | some d => exact ⟨d, rfl⟩
  have hslot : (updA T Fz r.o.dst r.a).get T d = some r.a := by rw [hd]; simp only [updA, AF.get, Nat.beq_refl]
  obtain ⟨u, hu1, hu2⟩ := hst.fr d r.a hslot
  obtain ⟨ho1, ho2⟩ := hst.ids d r.a hslot
  have hdn' : d < n := by have := hrk.dst; rw [hd] at this; simpa [okDst, Nat.blt_eq] using this
  have huv : u = v := by
    have := (hfr1.val d u hu1).1
    rw [hget d hdn', if_pos hd] at this
    exact this.symm
  subst huv
  refine ⟨g2 r.a u hu2 ho1, fun i hi => ?_, ?_⟩
  · have h1 := ho1 i hi
    simp only [htk.ne] at h1
    rw [mkH_len]; omega
  · cases hra : r.a with
    | eptr y sz k c =>
      rw [hra] at ho1 ho2
      intro e1 t1 xs hxs
      have hy : y < r.H1.length := ho1 y (by simp [AV.ids])
      obtain ⟨_, hf⟩ := mkH_get.1 hxs
      rw [hup] at hf
      -- what is there now
      have hg : r.H1[y]? = some (r.H1[y]'hy) := List.getElem?_eq_getElem _
      by_cases hlt : y < r.d.nb
      · by_cases ht : y ∈ r.d.tch
        · refine ho2 e1 t1 xs ?_
          by_cases hw : y ∈ r.d.wr
          · have : upR r y = r.H1[y]? := by unfold upR; rw [hsk, hln]; simp only; rw [if_pos hlt, if_pos ⟨ht, hw⟩]
            rw [this, hg, Option.getD_some] at hf
            rw [← hf]; exact hg
          · have : upR r y = none := by unfold upR; rw [hsk, hln]; simp only; rw [if_pos hlt, if_neg (fun q => hw q.2)]
            rw [this, Option.getD_none] at hf
            show r.H1[y]? = _
            rw [htk.keeps.same y (by rw [htk.hlen]; exact hlt) hw, htk.hm y hlt, if_pos ht, ← htch y ht, hf]
        · have := htk.ep
          rw [hra] at this
          simp only [epIn, Bool.or_eq_true] at this
          rcases this with h5 | h5 | h5
          · exact absurd (memN_iff.1 h5) ht
          · have := Nat.le_of_ble_eq_true h5; omega
          · exfalso
            have hyB : y < B := by
              unfold isDr at h5
              split at h5
              · rename_i hx; have := (List.getElem?_eq_some_iff.1 hx).1; omega
              · cases h5
            have h6 := h.rowFrom hyB rs.length (withD D j) (by rw [List.take_length, hup, hf]; rfl)
            unfold isDr at h5
            unfold base at h6
            split at h5
            · rename_i hx; rw [hx] at h6; cases h6
            · cases h5
      · have : upR r y = r.H1[y]? := by unfold upR; rw [hsk, hln]; simp only; rw [if_neg hlt]
        rw [this, hg, Option.getD_some] at hf
        refine ho2 e1 t1 xs ?_
        rw [← hf]; exact hg
    | _ => trivial
theorem presA_mono {F F' : AF T} (hF : ∀ t a, F.get T t = some a → F'.get T t = some a) {o : Oper} (h : presA F o = true) : presA F' o = true := by
  unfold presA at h ⊢
  rw [List.all_eq_true] at h ⊢
  intro x hx
  obtain ⟨a, ha⟩ := Option.isSome_iff_exists.1 (h x hx)
  rw [aev_mono hF ha]; rfl
/-- an operation on one cell. -/
theorem stepL (hk : OkD ops n) (hE : EnvOk T P C.E) (h : TrOk P C ops n B F0 H0 rs) (hlen : rs.length = ops.size) {N : Nat} (hN : ∀ q ∈ rs, q.d.ne ≤ N) (hF0 : ∀ t a, F0.get T t = some a → t < n ∧ ∀ i ∈ a.ids, i < B)
    {D : Nat → Bool} (hcl : ∀ i k, D i = true → Tp ops i k → D k = true) {j : Nat} {r : Rec T} (hr : rs[j]? = some r) {k c : Nat} {sv : Option (AV T.U)} (hl : r.loc = some (k, c, sv)) (hD : D j = false) (hpre : ∀ k, Tp ops j k → D k = true)
    {a : Act} (hsz : a.tmps.size = n) (hdf : a.defers = ds) (hs : Sim T w0 S0 (StD rs F0 H0 n N D) (fullF a n) w S φ) :
    r.o.wp P a w (fun a' w' => a'.tmps.size = n ∧ a'.defers = ds ∧ ∃ S1 φ1, Sim T w0 S0 (StD rs F0 H0 n N (withD D j)) (fullF a' n) w' S1 φ1) Q := by
  have hrk := h j r hr
  have hlk := hrk.lok _ _ _ hl
  have hkN : k < N := by have := hN r (List.mem_of_getElem? hr); have := hlk.lt; have := hrk.le.2; omega
  have hfr : ∀ t x, r.F.get T t = some x → (mkF (fF D rs (F0.get T)) n).get T t = some x := by
    intro t x hx
    obtain ⟨h1, h2⟩ := hlk.fr t x hx
    have h3 := h.slotD hk hr hlen hpre hcl hD (t := t) (List.mem_append.2 (.inl h1))
    refine mkF_get.2 ⟨?_, by rw [h3]; exact h2⟩
    by_cases hw : ∃ q ∈ rs.take j, q.o.dst = some t
    · obtain ⟨q, hq, hd⟩ := hw
      obtain ⟨i, _, hqi⟩ := take_mem' hq
      have hopi := (h i q hqi).op
      exact hk.dst q.d.j t (Array.getElem?_eq_some_iff.1 hopi).1 (by rw [dstOf_of hopi]; exact hd)
    · rw [fF_none fun q hq hd => hw ⟨q, hq, hd⟩] at h2
      exact (hF0 t x h2).1
  have hst := hlk.step _ (mkH N (hF D rs (base H0))) _ hfr (mkH_get.2 ⟨hkN, rfl⟩) (h.touchL hcl hr hl hD hpre)
  have hop := op_soundF (Q := Q) (ds := ds) hE hst hrk.dst hlk.ns (presA_mono hfr hlk.pre) hs (fullF_fr hsz hdf)
  refine Oper.wp_mono (fun a' w' hX => ?_) hop
  obtain ⟨F1, ⟨S1, φ1, hst1⟩, hfr1, v, rfl⟩ := hX
  obtain ⟨hsz', hdf', _⟩ := act_put (v := v) hsz hrk.dst
  refine ⟨hsz', by rw [hdf', hdf], S1, φ1, ?_⟩
  have hH : putE k c sv (hF D rs (base H0) k) (mkH N (hF D rs (base H0))) = mkH N (hF (withD D j) rs (base H0)) := by
    apply List.ext_getElem?
    intro e
    by_cases he : e < N
    · rw [mkH_get.2 ⟨he, rfl⟩, h.put hcl hr hD]
      cases sv with
      | none =>
        show (mkH N (hF D rs (base H0)))[e]? = _
        rw [mkH_get.2 ⟨he, rfl⟩]
        have hup : upR r e = none := by unfold upR; rw [hlk.skip, hl]
        unfold upG; rw [hl]; simp only [hup, Option.getD_none]
      | some u =>
        show ((mkH N (hF D rs (base H0))).set k _)[e]? = _
        unfold upG; rw [hl]
        simp only
        by_cases hek : e = k
        · subst hek; rw [List.getElem?_set_self (by rw [mkH_len]; exact he), if_pos rfl]
        · rw [List.getElem?_set_ne (Ne.symm hek), if_neg hek, mkH_get.2 ⟨he, rfl⟩]
    · rw [List.getElem?_eq_none (by cases sv <;> simp [putE, mkH_len] <;> omega), List.getElem?_eq_none (by rw [mkH_len]; omega)]
  rw [hH] at hst1
  have hget : ∀ t b, (mkF (fF (withD D j) rs (F0.get T)) n).get T t = some b → t < n ∧ (updA T (mkF (fF D rs (F0.get T)) n) r.o.dst r.a).get T t = some b := by
    intro t b hb
    obtain ⟨ht, hb⟩ := mkF_get.1 hb
    refine ⟨ht, ?_⟩
    rw [h.slotPut hk hr] at hb
    cases hd : r.o.dst with
    | none => rw [hd, if_neg (by simp)] at hb; exact mkF_get.2 ⟨ht, hb⟩
    | some d =>
      rw [hd] at hb
      simp only [updA, AF.get]
      cases hdt : Nat.beq d t with
      | true => have := Nat.eq_of_beq_eq_true hdt; subst this; rw [if_pos rfl] at hb; exact hb
      | false =>
        rw [if_neg (fun e => by cases e; simp at hdt)] at hb
        exact mkF_get.2 ⟨ht, hb⟩
  refine ⟨fun t b hb => ?_, fun t b hb => hst1.ids t b (hget t b hb).2, hst1.chg, hst1.own, hst1.ex, hst1.lives, hst1.pins, hst1.ents, hst1.eids, hst1.apart⟩
  obtain ⟨ht, hb⟩ := hget t b hb
  obtain ⟨u, h1, h2⟩ := hst1.fr t b hb
  exact ⟨u, fullF_get.2 ⟨ht, (hfr1.val t u h1).1⟩, h2⟩
/-- what an operation sees of a state. -/
theorem Sim.sub2 {FF : AF T} {HH : List (Ent T.U)} {F' : PF} (hs : Sim T w0 S0 ⟨FF, HH⟩ F' w S φ) {Fr : AF T} {Hm : List (Ent T.U)} {tch : List Nat} {nb : Nat} (hfr : ∀ t x, Fr.get T t = some x → FF.get T t = some x) (hHm : ∀ (e : Nat) (f : Ent T.U), Hm[e]? = some f → f = .gone ∨ (e ∈ tch ∧ HH[e]? = some f))
    (hlen : Hm.length = nb) (hfid : ∀ t x, Fr.get T t = some x → ∀ i ∈ x.ids, i < nb) (heids : ∀ f ∈ Hm, ∀ i ∈ f.cellIds, i < nb) : Sim T w ⟨tch.flatMap fun e => (φ e).all, S, (List.range nb).map φ⟩ ⟨Fr, Hm⟩ F' w S φ := by
  refine ⟨fun t x hx => hs.fr t x (hfr t x hx), fun t x hx => ⟨fun i hi => by simp only [hlen]; exact hfid t x hx i hi, ?_⟩, Chg.refl _ _, fun b hb => ⟨.inl hb, (hs.own b hb).2⟩, fun b hb _ _ => hb, fun e f hf hl x hx => ?_, fun k q hq => ?_, fun e f hf => ?_, fun e f hf i hi => by simp only [hlen]; exact heids f (List.mem_of_getElem? hf) i hi, fun i k f f' hf hf' hl hl' hik x y hx hy => ?_⟩
  · obtain ⟨_, h2⟩ := hs.ids t x (hfr t x hx)
    cases x with
    | eptr y sz k c =>
      intro e1 t1 xs hxs
      rcases hHm y _ hxs with h3 | ⟨_, h3⟩
      · cases h3
      · exact h2 e1 t1 xs h3
    | _ => trivial
  · rcases hHm e f hf with rfl | ⟨h1, h2⟩
    · cases hl
    · exact ⟨(hs.lives e f h2 hl x hx).1, .inl (List.mem_flatMap.2 ⟨e, h1, mem_all.2 ⟨x, hx, rfl⟩⟩)⟩
  · have hlt := (List.getElem?_eq_some_iff.1 hq).1
    simp at hlt
    simp [hlt] at hq
    exact ⟨.of hq, by simp only [hlen]; exact hlt⟩
  · rcases hHm e f hf with rfl | ⟨_, h2⟩
    · trivial
    · exact hs.ents e f h2
  · rcases hHm i f hf with rfl | ⟨_, h2⟩
    · cases hl
    · rcases hHm k f' hf' with rfl | ⟨_, h2'⟩
      · cases hl'
      · exact hs.apart i k f f' h2 h2' hl hl' hik x y hx hy
theorem Oper.wp_pan {o : Oper} {a : Act} {w : World} {K K' : Act → World → Prop} {Q Q' : Exit → Act → World → Prop} (hK : ∀ a w, K a w → False) (hQ : ∀ ch w', Q (.panic ch) a w' → Q' (.panic ch) a w') (hO : ∀ a w, Q .outgrown a w → False)
    (h : o.wp P a w K Q) : o.wp P a w K' Q' := by
  unfold Oper.wp at h ⊢
  generalize (execOp a.eval o).run P w = r at h ⊢
  unfold Oper.upon at h ⊢
  split at h
  · exact (hK _ _ h).elim
  · exact (hK _ _ h).elim
  · exact (hK _ _ h).elim
  · refine h.mono fun e w' hq => ?_
    cases e with
    | returned v => exact (hK _ _ hq).elim
    | panicked ch => exact hQ _ _ hq
    | outgrown => obtain ⟨a1, w1, h1⟩ := hq; exact (hO _ _ h1).elim
  · exact h.mono fun v w' hq => (hK _ _ hq).elim
  · exact hQ _ _ h
  · exact h.elim
/-- An operation that panics. -/
theorem op_soundP {o : Oper} {F : AF T} {H : List (Ent T.U)} {F' : PF} (hE : EnvOk T P C.E) {a0 : AV T.U} {Hp : List (Ent T.U)} (hs : stepF P C o ⟨F, H⟩ (fun _ => none) (fun a st => some (a, st.H)) = some (a0, Hp)) (hdst : okDst n o.dst = true) (hns : notSelect o = true) (hpre : presA F o = true) (h : Sim T w0 S0 ⟨F, H⟩ F' w S φ) {a : Act} (ha : Fr n ds F' a)
    {K : Act → World → Prop} (HP : ∀ v w' S1 φ1 F1 Fc, Sim T w0 S0 ⟨Fc, Hp⟩ F1 w' S1 φ1 → VR T w' S1 φ1 a0 v → Q (.panic [{ v := v, recovered := false }]) a w') : o.wp P a w K Q := by
  let o' : Oper := { o with guard := none }
  have hd : dec #[o'] 0 n F' = some o' := by
    unfold dec
    have hw : wants #[o'] F' o' = some true := rfl
    have hp : present F' o' = true := presA_rel (o := o') h.fr hpre
    have h1 : okDst n o'.dst = true := hdst
    have h2 : notSelect o' = true := hns
    simp only [List.getElem?_toArray, List.getElem?_cons_zero, hw, hp, h1, h2, Bool.and_self]
  have hs' : stepF P C o' ⟨F, H⟩ (fun _ => none) (fun a st => some (a, st.H)) = some (a0, Hp) := by
    cases o; exact hs
  have hwr := stepF_sound (Q := fun e _ w' => ∃ v S1 φ1 F1 Fc, e = .panic [{ v := v, recovered := false }] ∧ Sim T w0 S0 ⟨Fc, Hp⟩ F1 w' S1 φ1 ∧ VR T w' S1 φ1 a0 v) (ds := ds) hE hd hs' h (fun st hst => by cases hst) (fun a1 st hst => by
    simp only [Option.some.injEq, Prod.mk.injEq] at hst
    obtain ⟨rfl, rfl⟩ := hst
    intro F1 w1 S1 φ1 v k1 k2 _ act _
    exact ⟨v, S1, φ1, F1, st.F, rfl, k1, k2⟩)
  have hw := hwr a ha
  unfold wpList at hw
  have hwant : Region.wanted o' (yielded #[o'] a.tmps) = true := (dec_spec hd).2.2.2.2 ha
  have hcons : (#[o'] : Array Oper).toList.drop 0 = [o'] := rfl
  rw [hcons] at hw
  simp only [hwant, if_true] at hw
  have bad : ∀ {a1 : Act} {w1 : World}, wpList P #[o'] (fun e _ w' => ∃ v S1 φ1 F1 Fc, e = .panic [{ v := v, recovered := false }] ∧ Sim T w0 S0 ⟨Fc, Hp⟩ F1 w' S1 φ1 ∧ VR T w' S1 φ1 a0 v) [] a1 w1 → False := by
    intro a1 w1 h1
    unfold wpList at h1
    obtain ⟨v, _, _, _, _, he, _⟩ := h1
    cases he
  rcases hw with hw | ⟨_, a1, w1, h1⟩
  · refine wp_guard (g := none) ?_
    refine Oper.wp_pan (o := o') (fun _ _ h => bad h) (fun ch w' hq => ?_) (fun _ _ hq => ?_) hw
    · obtain ⟨v, S1, φ1, F1, Fc, he, k1, k2⟩ := hq
      cases he
      exact HP v w' S1 φ1 F1 Fc k1 k2
    · obtain ⟨v, _, _, _, _, he, _⟩ := hq; cases he
  · obtain ⟨v, _, _, _, _, he, _⟩ := h1; cases he
theorem offD_get {l : List Nat} {t : Nat} {a : AV T.U} : ∀ {F : AF T}, (offD T l F).get T t = some a → F.get T t = some a ∧ t ∉ l
  | [], h => by simp [offD, AF.get] at h
  | (q, b) :: r, h => by
    unfold offD at h
    split at h
    · rename_i hm
      obtain ⟨h1, h2⟩ := offD_get h
      refine ⟨?_, h2⟩
      simp only [AF.get]
      split
      · rename_i hb
        have := Nat.eq_of_beq_eq_true hb; subst this
        exact absurd (memN_iff.1 hm) h2
      · exact h1
    · rename_i hm
      simp only [AF.get] at h ⊢
      split at h
      · rename_i hb
        have := Nat.eq_of_beq_eq_true hb; subst this
        refine ⟨h, fun hq => ?_⟩
        rw [memN_iff.2 hq] at hm; cases hm
      · exact offD_get h
theorem panD (hk : OkD ops n) (hE : EnvOk T P C.E) (h : TrOk P C ops n B F0 H0 rs) (hlen : rs.length = ops.size) (hB : H0.length = B) (hF0 : ∀ t a, F0.get T t = some a → t < n ∧ ∀ i ∈ a.ids, i < B) (hH0 : ∀ f ∈ H0, ∀ i ∈ f.cellIds, i < B) (hpin : S0.pin.length ≤ B)
    {N : Nat} (hN : ∀ q ∈ rs, q.d.ne ≤ N) {D : Nat → Bool} (hcl : ∀ i k, D i = true → Tp ops i k → D k = true) {j : Nat} {r : Rec T} (hr : rs[j]? = some r) {a0 : AV T.U} {core : List (Ent T.U)} (hp : PanI P C ops B F0 H0 rs j a0 core) (hD : D j = false) (hpre : ∀ k, Tp ops j k → D k = true)
    {a : Act} (hsz : a.tmps.size = n) (hdf : a.defers = ds) (hs : Sim T w0 S0 (StD rs F0 H0 n N D) (fullF a n) w S φ) (HP : PKont Q n ds w0 S0 a0 (⟨offD T (dsts ops ops.size) F0, core⟩ : St T)) {K : Act → World → Prop} :
    r.o.wp P a w K Q := by
  obtain ⟨⟨r0, tch, F, Hm, Hp, wr, p1, p2, p3, p4, p5, p6, p7, p8, p9, p10, p11, p12, p13, p14, p15, p16, p17⟩, q1, q2, q3, q4⟩ := hp
  have : r0 = r := by rw [hr] at p1; exact (Option.some.inj p1).symm
  subst this
  have hrk := h j r0 hr
  have hnN := hN r0 (List.mem_of_getElem? hr)
  -- entries are as they were when the operation was noted
  have same : ∀ e, (∀ q ∈ rs, acts q e → q.d.j < j ∧ D q.d.j = true) → hF D rs (base H0) e = hF allD (rs.take j) (base H0) e := by
    intro e he
    conv => lhs; rw [split_at hr]
    rw [hF_app]
    show hF D (rs.drop (j + 1)) (match D r0.d.j with | true => _ | false => hF D (rs.take j) (base H0)) e = _
    rw [h.idx hr, hD]
    simp only
    rw [hF_none fun q hq _ hu => ?_]
    · refine hF_congr rfl fun q hq hu => ?_
      exact (he q (List.mem_of_mem_take hq) hu).2
    · obtain ⟨i, hi, hqi⟩ := drop_mem hq
      have := (he q (List.mem_of_getElem? hqi) hu).1
      rw [h.idx hqi] at this; omega
  have htch : ∀ e ∈ tch, hF D rs (base H0) e = hF allD (rs.take j) (base H0) e := by
    intro e he
    refine same e fun q hq hu => ?_
    obtain ⟨i, hqi⟩ := List.mem_iff_getElem?.1 hq
    have henb := (p10 e he).1
    rw [h.idx hqi]
    rcases Classical.em (∃ c1 v1, q.loc = some (e, c1, some v1)) with ⟨c1, v1, hl1⟩ | hnl
    · have hlk := (h i q hqi).lok _ _ _ hl1
      rcases Nat.lt_trichotomy i j with hij | rfl | hij
      · refine ⟨hij, ?_⟩
        rcases p15 q (take_mem hij hqi) with hc' | ⟨_, h1⟩
        · rw [h.idx hqi] at hc'; exact hpre i hc'
        · exact absurd he (h1 e c1 v1 hl1)
      · rw [hr] at hqi
        have := Option.some.inj hqi; subst this
        rw [(hrk.skip (hrk.dskip p2)).2] at hl1; cases hl1
      · exfalso
        have := q2 q hq hlk.skip (.inr ⟨_, _, _, hl1⟩)
        rw [h.idx hqi] at this
        have := Tp.lt hk.back this (by have := (List.getElem?_eq_some_iff.1 hr).1; omega)
        omega
    obtain ⟨⟨hqs, hql⟩, hc⟩ := upR_cases (hu.resolve_right hnl)
    rcases Nat.lt_trichotomy i j with hij | rfl | hij
    · refine ⟨hij, ?_⟩
      rcases p15 q (take_mem hij hqi) with hc' | ⟨h1, _⟩
      · rw [h.idx hqi] at hc'; exact hpre i hc'
      · exfalso
        have hw := h1 e he
        unfold DR.wrE at hw
        simp only [Bool.or_eq_false_iff, Bool.and_eq_false_imp] at hw
        rcases hc with ⟨_, _, g3⟩ | ⟨g1, g2⟩
        · rw [memN_iff.2 g3] at hw; cases hw.1
        · have := hw.2 (Nat.ble_eq_true_of_le g1)
          rw [((h i q hqi).take hqs hql).ne] at g2
          rw [show Nat.blt e q.d.ne = true by rw [Nat.blt_eq]; exact g2] at this; cases this
    · rw [hr] at hqi
      have := Option.some.inj hqi; subst this
      rw [hrk.dskip p2] at hqs; cases hqs
    · exfalso
      have hord := h.ord hij hr hqi
      have hle := hrk.le.2
      rcases hc with ⟨_, _, g3⟩ | ⟨g1, _⟩
      · have := q2 q hq hqs (.inl fun e' => by rw [e'] at g3; cases g3)
        rw [h.idx hqi] at this
        have := Tp.lt hk.back this (by have := (List.getElem?_eq_some_iff.1 hr).1; omega)
        omega
      · omega
  have hcore : ∀ e, e < B → hF D rs (base H0) e = hF allD (rs.take j) (base H0) e := by
    intro e he
    refine same e fun q hq hu => ?_
    obtain ⟨i, hqi⟩ := List.mem_iff_getElem?.1 hq
    rcases Classical.em (∃ c1 v1, q.loc = some (e, c1, some v1)) with ⟨c1, v1, hl1⟩ | hnl
    · have htp := q2 q hq ((h i q hqi).lok _ _ _ hl1).skip (.inr ⟨_, _, _, hl1⟩)
      refine ⟨Tp.lt hk.back htp (by have := (List.getElem?_eq_some_iff.1 hr).1; omega), hpre _ htp⟩
    obtain ⟨⟨hqs, hql⟩, hc⟩ := upR_cases (hu.resolve_right hnl)
    have hqb := (h i q hqi).le.1
    rcases hc with ⟨_, _, g3⟩ | ⟨g1, _⟩
    · have htp := q2 q hq hqs (.inl fun e' => by rw [e'] at g3; cases g3)
      refine ⟨Tp.lt hk.back htp (by have := (List.getElem?_eq_some_iff.1 hr).1; omega), hpre _ htp⟩
    · omega
  have hHm : ∀ (e : Nat) (f : Ent T.U), Hm[e]? = some f → f = .gone ∨ (e ∈ tch ∧ (mkH N (hF D rs (base H0)))[e]? = some f) := by
    intro e f hf
    have hlt := (List.getElem?_eq_some_iff.1 hf).1
    rw [p8] at hlt
    rw [p9 e hlt] at hf
    simp only [Option.some.injEq] at hf
    split at hf
    · rename_i he
      exact .inr ⟨he, mkH_get.2 ⟨by have := hrk.le.2; omega, by rw [htch e he]; exact hf⟩⟩
    · exact .inl hf.symm
  have hsub := hs.sub2 (Fr := F) (Hm := Hm) (tch := tch) (nb := r0.d.nb) (fun t x hx => by
    obtain ⟨h1, h2⟩ := p12 t x hx
    have h3 := h.slotD hk hr hlen hpre hcl hD (t := t) (List.mem_append.2 (.inl h1))
    refine mkF_get.2 ⟨?_, by rw [h3]; exact h2⟩
    by_cases hw : ∃ q ∈ rs.take j, q.o.dst = some t
    · obtain ⟨q, hq, hd⟩ := hw
      obtain ⟨i, _, hqi⟩ := take_mem' hq
      have hopi := (h i q hqi).op
      exact hk.dst q.d.j t (Array.getElem?_eq_some_iff.1 hopi).1 (by rw [dstOf_of hopi]; exact hd)
    · rw [fF_none fun q hq hd => hw ⟨q, hq, hd⟩] at h2
      exact (hF0 t x h2).1) hHm p8 p13 p14
  refine op_soundP hE p6 hrk.dst p4 p5 hsub (fullF_fr hsz hdf) fun v w' S1 φ1 F1 Fc hst hv => ?_
  have hnb := hrk.le.2
  obtain ⟨φ2, g1, g2⟩ := hs.frame2 (tch := tch) (nb := r0.d.nb) hst (by rw [p11]; exact hnb) (by rw [mkH_len, p11]; exact hnN) (by have := hrk.le.1; omega)
    (fun e he => ⟨(p10 e he).1, _, mkH_get.2 ⟨by have := (p10 e he).1; omega, rfl⟩, by rw [htch e he]; exact (p10 e he).2⟩)
    (fun e h1 h2 => mkH_get.2 ⟨by rw [p11] at h2; omega, h.free hB hcl hr hD h1 (by rw [← p11]; exact h2)⟩)
    (H2 := mkH N fun e => if e ∈ tch ∨ (r0.d.nb ≤ e ∧ e < r0.d.ne) then (Hp[e]?).getD .gone else hF D rs (base H0) e) (by rw [mkH_len, mkH_len])
    (fun e f hf => by
      obtain ⟨he, hf⟩ := mkH_get.1 hf
      by_cases ht : e ∈ tch
      · rw [if_pos (.inl ht)] at hf
        have hlt := (p10 e ht).1
        have hg : Hp[e]? = some (Hp[e]'(by rw [p11]; omega)) := List.getElem?_eq_getElem _
        rw [hg, Option.getD_some] at hf
        exact .inl ⟨ht, by rw [hg, hf]⟩
      · by_cases hn : r0.d.nb ≤ e ∧ e < r0.d.ne
        · rw [if_pos (.inr hn)] at hf
          have hg : Hp[e]? = some (Hp[e]'(by rw [p11]; exact hn.2)) := List.getElem?_eq_getElem _
          rw [hg, Option.getD_some] at hf
          exact .inr (.inl ⟨hn.1, by rw [hg, hf]⟩)
        · rw [if_neg (fun hh => hh.elim ht hn)] at hf
          exact .inr (.inr ⟨ht, by rw [p11]; omega, mkH_get.2 ⟨he, hf⟩⟩))
    (fun e ty t ys he hy => by
      have hlt := (p10 e he).1
      obtain ⟨xs, hx⟩ := p7.row e ty t ys (by rw [p8]; exact hlt) hy
      rcases hHm e _ hx with h3 | ⟨_, h3⟩
      · cases h3
      · exact ⟨xs, h3⟩)
    (fun t x hx => by
      rw [p11]
      exact h.fid hk (fun t a ha => (hF0 t a ha).2) hcl hr hD (mkF_get.1 hx).2)
    (fun e f hf _ => by
      rw [p11]
      obtain ⟨_, rfl⟩ := mkH_get.1 hf
      exact h.hid hH0 hcl hr hD)
  have hv2 := g2 a0 v hv (by rw [q4]; intro i hi; cases hi)
  have hcg : ∀ (e : Nat) (f : Ent T.U), core[e]? = some f → (mkH N fun e => if e ∈ tch ∨ (r0.d.nb ≤ e ∧ e < r0.d.ne) then (Hp[e]?).getD .gone else hF D rs (base H0) e)[e]? = some f := by
    intro e f hf
    have hlt := (List.getElem?_eq_some_iff.1 hf).1
    rw [p17] at hlt
    rw [p16 e hlt] at hf
    simp only [Option.some.injEq] at hf
    have := hrk.le.1
    refine mkH_get.2 ⟨by omega, ?_⟩
    by_cases ht : e ∈ tch
    · rw [if_pos ht] at hf
      rw [if_pos (.inl ht)]; exact hf
    · rw [if_neg ht] at hf
      rw [if_neg (fun hh => hh.elim ht fun h2 => by omega), hcore e hlt]; exact hf
  have hfin : Sim T w0 S0 ⟨offD T (dsts ops ops.size) F0, core⟩ (fullF a n) w' S1 φ2 := by
    have hget : ∀ t x, (offD T (dsts ops ops.size) F0).get T t = some x → (mkF (fF D rs (F0.get T)) n).get T t = some x := by
      intro t x hx
      obtain ⟨h1, h2⟩ := offD_get hx
      refine mkF_get.2 ⟨(hF0 t x h1).1, ?_⟩
      rw [fF_none fun q hq hd => ?_]
      · exact h1
      · obtain ⟨i, hqi⟩ := List.mem_iff_getElem?.1 hq
        have hopi := (h i q hqi).op
        exact h2 (List.mem_filterMap.2 ⟨q.d.j, List.mem_range.2 (Array.getElem?_eq_some_iff.1 hopi).1, by rw [hopi]; exact hd⟩)
    refine ⟨fun t x hx => g1.fr t x (hget t x hx), fun t x hx => ?_, g1.chg, g1.own, g1.ex, fun i e he => g1.lives i e (hcg i e he), fun k r hk => ?_, fun i e he => g1.ents i e (hcg i e he), fun i e he x hx => ?_, fun i k e e' he he' => g1.apart i k e e' (hcg i e he) (hcg k e' he')⟩
    · obtain ⟨k1, k2⟩ := g1.ids t x (hget t x hx)
      refine ⟨fun i hi => by simp only [p17]; exact (hF0 t x (offD_get hx).1).2 i hi, ?_⟩
      cases x with
      | eptr y sz k c => intro e1 t1 xs hxs; exact k2 e1 t1 xs (hcg y _ hxs)
      | _ => trivial
    · have := (List.getElem?_eq_some_iff.1 hk).1
      exact ⟨(g1.pins k r hk).1, by simp only [p17]; omega⟩
    · have := q3 e (List.mem_of_getElem? he) x hx
      simp only [p17]; exact this
  exact HP _ _ _ _ v hfin hv2 (okA_of_nil q4 fun i sz k c e => by rw [e, AV.ids] at q4; cases q4) a (fullF_fr hsz hdf)
theorem Sim.pad {F : AF T} {F' : PF} {H H' : List (Ent T.U)} (h : Sim T w0 S0 ⟨F, H⟩ F' w S φ) (hl : H.length ≤ H'.length) (hg : ∀ (e : Nat) (f : Ent T.U), H'[e]? = some f → f = .gone ∨ H[e]? = some f) : Sim T w0 S0 ⟨F, H'⟩ F' w S φ := by
  refine ⟨h.fr, fun t a ha => ?_, h.chg, h.own, h.ex, fun i e he hlv a ha => ?_, fun k r hk => ⟨(h.pins k r hk).1, Nat.lt_of_lt_of_le (h.pins k r hk).2 hl⟩, fun i e he => ?_, fun i e he j hj => ?_, fun i j e e' he he' hlv hlv' hij a b ha hb => ?_⟩
  · obtain ⟨h1, h2⟩ := h.ids t a ha
    refine ⟨fun i hi => Nat.lt_of_lt_of_le (h1 i hi) hl, ?_⟩
    cases a with
    | eptr y sz k c =>
      intro e1 t1 xs hx
      rcases hg y _ hx with h3 | h3
      · cases h3
      · exact h2 e1 t1 xs h3
    | _ => trivial
  · rcases hg i e he with rfl | h3
    · cases hlv
    · exact h.lives i e h3 hlv a ha
  · rcases hg i e he with rfl | h3
    · trivial
    · exact h.ents i e h3
  · rcases hg i e he with rfl | h3
    · cases hj
    · exact Nat.lt_of_lt_of_le (h.eids i e h3 j hj) hl
  · rcases hg i e he with rfl | h3
    · cases hlv
    · rcases hg j e' he' with rfl | h3'
      · cases hlv'
      · exact h.apart i j e e' h3 h3' hlv hlv' hij a b ha hb
def boolV : Value → Option Bool | .bool c => some c | _ => none
def badOf {R : Type} (pz : Option (Nat × Option R)) (i : Nat) : Prop := match pz with | none => False | some (j0, _) => i = j0
theorem regD_any {F : AF T} {H : List (Ent T.U)} {F' : PF} {R : Type} {r : R} (hE : EnvOk T P C.E) {pm : Bool} {Kp : AV T.U → St T → Option R} {K : St T → Option R} (HK : ∀ st, K st = some r → RKont Q n ds w0 S0 st) (HP : ∀ a st, Kp a st = some r → PKont Q n ds w0 S0 a st) (hr : regD T P C ops n pm Kp K ⟨F, H⟩ = some r) (hs : Sim T w0 S0 ⟨F, H⟩ F' w S φ) :
    ∀ a, Fr n ds F' a → wpAny P .any ops Q ops.size (Array.replicate ops.size false) a { w with drawn := w.drawn + 1 } := by
  unfold regD at hr
  split at hr <;> try (cases hr; done)
  rename_i hok
  have hk := okD_spec hok
  intro a ha
  obtain ⟨rs, pz, FF, Hc, recs, hacc, hpz, hlen, hK⟩ := regP_tr (B := H.length) (F0 := F) (H0 := H) rfl hk hE ops.toList [] none F H [] rfl
    ⟨fun j r hj => by simp at hj, fun t => rfl, fun e he => by simp only [hF, base]; rw [List.getElem?_eq_getElem he]; rfl, Nat.le_refl _, fun r hr => (by cases hr), rfl⟩ (by intro q hq; cases hq) hr
  have h := hacc.tr
  have hF0 : ∀ t x, F.get T t = some x → t < n ∧ ∀ i ∈ x.ids, i < H.length := fun t x hx => by
    obtain ⟨v, hv, _⟩ := hs.fr t x hx
    exact ⟨(ha.val t v hv).2, (hs.ids t x hx).1⟩
  have hH0 : ∀ f ∈ H, ∀ i ∈ f.cellIds, i < H.length := fun f hf i hi => by
    obtain ⟨e, he⟩ := List.mem_iff_getElem?.1 hf
    exact hs.eids e f he i hi
  have hpin : S0.pin.length ≤ H.length := by
    rcases Nat.eq_zero_or_pos S0.pin.length with h0 | h0
    · omega
    · have hlt : S0.pin.length - 1 < S0.pin.length := by omega
      have := (hs.pins _ _ (List.getElem?_eq_getElem hlt)).2
      simp only at this; omega
  have readyd : ∀ (listed : Array Bool) i, i ∈ Region.ready .any ops listed → i < ops.size ∧ listed.getD i true = false ∧ ∀ j, (dpreds ops i).contains j = true → listed.getD j false = true := by
    intro listed i hi
    unfold Region.ready at hi
    rw [List.mem_filter] at hi
    have hlt : i < ops.size := by simpa using hi.1
    have h2 := hi.2
    rw [Bool.and_eq_true] at h2
    refine ⟨hlt, by simpa using h2.1, fun j hj => ?_⟩
    unfold dpreds at hj
    rw [Array.getElem?_eq_getElem hlt] at hj h2
    simp only [List.contains_eq_mem, decide_eq_true_eq, List.mem_map, List.mem_filter] at hj
    obtain ⟨e, ⟨he, hb⟩, rfl⟩ := hj
    have h3 := h2.2
    simp only [Option.map_some, Option.getD_some, Array.all_eq_true'] at h3
    have := h3 e (by simpa using he)
    rw [hb] at this
    simpa using this
  have readyI : ∀ (listed : Array Bool) i, i < ops.size → listed.getD i true = false → (∀ j, (dpreds ops i).contains j = true → listed.getD j false = true) → i ∈ Region.ready .any ops listed := by
    intro listed i hlt h1 h2
    unfold Region.ready
    rw [List.mem_filter]
    refine ⟨by simpa using hlt, ?_⟩
    rw [Array.getElem?_eq_getElem hlt, h1]
    simp only [Bool.not_false, Bool.true_and, Option.map_some, Option.getD_some, Array.all_eq_true']
    intro e he
    cases hb : Region.binds .any e with
    | false => rfl
    | true =>
      have := h2 e.on (by
        unfold dpreds
        rw [Array.getElem?_eq_getElem hlt]
        simp only [List.contains_eq_mem, decide_eq_true_eq, List.mem_map, List.mem_filter]
        exact ⟨e, ⟨by simpa using he, hb⟩, rfl⟩)
      rw [this]; rfl
  let Dl : Array Bool → Nat → Bool := fun listed i => listed.getD i false
  -- the one that panics, if any
  let bad : Nat → Prop := badOf pz
  have hbad1 : ∀ (i : Nat) (q : Rec T), rs[i]? = some q → q.dead = true → ∃ k, bad k ∧ (i = k ∨ Tp ops i k) := by
    intro i q hq hqd
    cases hpp : pz with
    | none => rw [hpp] at hpz; have := hpz q (List.mem_of_getElem? hq); rw [this] at hqd; cases hqd
    | some x =>
      obtain ⟨j0, kf⟩ := x
      rw [hpp] at hpz
      obtain ⟨a0, core, g1, _⟩ := hpz
      refine ⟨j0, by show badOf pz j0; rw [hpp]; rfl, ?_⟩
      have := g1.deads q (List.mem_of_getElem? hq) hqd
      rw [h.idx hq] at this; exact this
  have hbad2 : ∀ k, bad k → ∃ (q : Rec T) (a0 : AV T.U) (core : List (Ent T.U)) (_ : Unit), rs[k]? = some q ∧ PanI P C ops H.length F H rs k a0 core ∧ Kp a0 ⟨offD T (dsts ops ops.size) F, core⟩ = some r := by
    intro k hb
    cases hpp : pz with
    | none => have hb : badOf pz k := hb; rw [hpp] at hb; exact hb.elim
    | some x =>
      obtain ⟨j0, kf⟩ := x
      have hb : k = j0 := by have hb : badOf pz k := hb; rw [hpp] at hb; exact hb
      subst hb
      rw [hpp] at hpz hK
      obtain ⟨a0, core, g1, rfl⟩ := hpz
      obtain ⟨q, _, _, _, _, _, g2, _⟩ := g1.out
      exact ⟨q, a0, core, (), g2, g1, hK⟩
  have hbad3 : (∃ k, bad k) ∨ K ⟨FF, Hc⟩ = some r := by
    cases hpp : pz with
    | none => rw [hpp] at hK; exact .inr hK
    | some x =>
      obtain ⟨j0, kf⟩ := x
      exact .inl ⟨j0, by show badOf pz j0; rw [hpp]; rfl⟩
  let I : Array Bool → Act → World → Prop := fun listed a w => listed.size = ops.size ∧ (∀ i k, Dl listed i = true → (dpreds ops i).contains k = true → Dl listed k = true) ∧ a.tmps.size = n ∧ a.defers = ds ∧ (∀ k, bad k → Dl listed k = false) ∧
    ∃ S φ, Sim T w0 S0 (StD rs F H n Hc.length (Dl listed)) (fullF a n) w S φ
  refine wpAny_inv I ?_ ?_ ops.size _ a _ ⟨by simp, by simp⟩ ⟨by simp, fun i k hi _ => ?_, ha.size, ha.defers, fun k _ => ?_, S, φ, ?_⟩
  · -- a step
    intro listed a w i hI hi
    obtain ⟨hls, hcl1, hsz, hdf, hnb, S, φ, hsim⟩ := hI
    obtain ⟨hilt, hil, hip⟩ := readyd listed i hi
    have hDi : Dl listed i = false := by
      show listed.getD i false = false
      rw [Array.getD_eq_getD_getElem?] at hil ⊢
      rw [Array.getElem?_eq_getElem (by omega)] at hil ⊢
      simpa using hil
    have hcl : ∀ i k, Dl listed i = true → Tp ops i k → Dl listed k = true := fun i k hi t => by
      induction t with
      | one h => exact hcl1 _ _ hi h
      | step h _ ih => exact ih (hcl1 _ _ hi h)
    have hpre : ∀ k, Tp ops i k → Dl listed k = true := fun k t => by
      cases t with
      | one h => exact hip _ h
      | step h t => exact hcl _ _ (hip _ h) t
    have hset : Dl (listed.setIfInBounds i true) = withD (Dl listed) i := by
      funext j
      show (listed.setIfInBounds i true).getD j false = if j = i then true else listed.getD j false
      rw [Array.getD_eq_getD_getElem?, Array.getElem?_setIfInBounds]
      by_cases hji : j = i
      · subst hji; simp [hls, hilt]
      · rw [if_neg (fun e => hji e.symm), if_neg hji, ← Array.getD_eq_getD_getElem?]
    have hri : rs[i]? = some rs[i] := List.getElem?_eq_getElem (by omega)
    generalize hrr : rs[i] = r at hri
    have hrk := h i r hri
    have hop := hrk.op
    rw [h.idx hri] at hop
    have keepI : ¬ bad i → ∀ a' w', a'.tmps.size = n → a'.defers = ds → (∃ S1 φ1, Sim T w0 S0 (StD rs F H n Hc.length (withD (Dl listed) i)) (fullF a' n) w' S1 φ1) → I (listed.setIfInBounds i true) a' w' := by
      intro hnbi a' w' h1 h2 h3
      refine ⟨by simpa using hls, fun x k hx hk => ?_, h1, h2, fun k hk => by
        have hne : k ≠ i := fun e => hnbi (e ▸ hk)
        rw [hset]; unfold withD; rw [if_neg hne]; exact hnb k hk, by rw [hset]; exact h3⟩
      rw [hset] at hx ⊢
      unfold withD at hx ⊢
      by_cases hki : k = i
      · rw [if_pos hki]
      · rw [if_neg hki]
        by_cases hxi : x = i
        · subst hxi; exact hip k hk
        · rw [if_neg hxi] at hx; exact hcl1 x k hx hk
    -- is it wanted
    have hguard : ∀ b, (match r.o.guard with | none => (some true : Option Bool) | some (g, b) => (yielded ops a.tmps g).map fun c => c == b) = b → (Region.wanted r.o (yielded ops a.tmps) = true ↔ b = some true) := by
      intro b hb
      unfold Region.wanted
      cases hg : r.o.guard with
      | none => rw [hg] at hb; subst hb; simp
      | some gb =>
        obtain ⟨g, b'⟩ := gb
        rw [hg] at hb
        simp only at hb ⊢
        subst hb
        cases yielded ops a.tmps g with
        | none => simp
        | some c => cases c <;> cases b' <;> simp
    have hwant : r.dead = false → Region.wanted r.o (yielded ops a.tmps) = !r.skip := by
      intro hnd
      have hg := hrk.guard hnd
      cases hgd : r.o.guard with
      | none =>
        rw [hgd] at hg
        simp only at hg
        rw [hg]
        exact (hguard (some true) (by rw [hgd])).2 rfl
      | some gb =>
        obtain ⟨g, b⟩ := gb
        rw [hgd] at hg
        simp only at hg
        obtain ⟨rg, hm1, hm2, ⟨d, hd⟩, hm3, hm4⟩ := hg
        obtain ⟨k, hki, hrk'⟩ := take_mem' hm1
        have hkg : k = g := by rw [← h.idx hrk', hm2]
        subst hkg
        have hopg := (h k rg hrk').op
        rw [h.idx hrk'] at hopg
        have hdn := hk.dst k d (Array.getElem?_eq_some_iff.1 hopg).1 (by rw [dstOf_of hopg]; exact hd)
        have hsl := h.slotD hk hri hlen hpre hcl hDi (t := d) (List.mem_append.2 (.inr (by unfold guardTmp; rw [hgd]; simp [dstOf_of hopg, hd])))
        rw [fF_at hm1 hd fun q hq hd' => h.uniq hk (List.mem_of_mem_take hq) (List.mem_of_mem_take hm1) hd' hd] at hsl
        have hsl : fF (Dl listed) rs (F.get T) d = some rg.a := hsl
        obtain ⟨v, hv, hvr⟩ := hsim.fr d rg.a (mkF_get.2 ⟨hdn, hsl⟩)
        have hv := (fullF_get.1 hv).2
        have hyv : yielded ops a.tmps k = boolV v := by
          unfold yielded
          rw [hopg]
          simp only [Option.bind_some, hd]
          rw [Array.getD_eq_getD_getElem?, Array.getElem?_eq_getElem (by rw [hsz]; exact hdn)] at hv
          rw [Array.getElem?_eq_getElem (by rw [hsz]; exact hdn)]
          simp only [Option.getD_some] at hv
          rw [hv]
          cases v <;> rfl
        cases hs : r.skip with
        | false =>
          have := hm3 hs
          rw [this] at hvr
          have := cbool_rel hvr; subst this
          exact (hguard (some true) (by rw [hgd]; simp only [hyv]; cases b <;> rfl)).2 rfl
        | true =>
          rcases hm4 hs with h5 | ⟨u, h5⟩
          · rw [h5] at hvr
            have := cbool_rel hvr; subst this
            have := hguard (some false) (by rw [hgd]; simp only [hyv]; cases b <;> rfl)
            cases hwd : Region.wanted r.o (yielded ops a.tmps) with
            | false => rfl
            | true => exact absurd (this.1 hwd) (by simp)
          · rw [h5, VR] at hvr; subst hvr
            have := hguard none (by rw [hgd]; simp only [hyv]; rfl)
            cases hwd : Region.wanted r.o (yielded ops a.tmps) with
            | false => rfl
            | true => exact absurd (this.1 hwd) (by simp)
    -- a guard that lets it
    have hlets : (match r.o.guard with | none => True | some (g, b) => ∃ rg ∈ rs.take i, rg.d.j = g ∧ (∃ d, rg.o.dst = some d) ∧ rg.a = cB T b) → Region.wanted r.o (yielded ops a.tmps) = true := by
      intro hg
      cases hgd : r.o.guard with
      | none => exact (hguard (some true) (by rw [hgd])).2 rfl
      | some gb =>
        obtain ⟨g, b⟩ := gb
        rw [hgd] at hg
        simp only at hg
        obtain ⟨rg, hm1, hm2, ⟨d, hd⟩, hm3⟩ := hg
        obtain ⟨k, hki, hrk'⟩ := take_mem' hm1
        have hkg : k = g := by rw [← h.idx hrk', hm2]
        subst hkg
        have hopg := (h k rg hrk').op
        rw [h.idx hrk'] at hopg
        have hdn := hk.dst k d (Array.getElem?_eq_some_iff.1 hopg).1 (by rw [dstOf_of hopg]; exact hd)
        have hsl := h.slotD hk hri hlen hpre hcl hDi (t := d) (List.mem_append.2 (.inr (by unfold guardTmp; rw [hgd]; simp [dstOf_of hopg, hd])))
        rw [fF_at hm1 hd fun q hq hd' => h.uniq hk (List.mem_of_mem_take hq) (List.mem_of_mem_take hm1) hd' hd] at hsl
        have hsl : fF (Dl listed) rs (F.get T) d = some rg.a := hsl
        obtain ⟨v, hv, hvr⟩ := hsim.fr d rg.a (mkF_get.2 ⟨hdn, hsl⟩)
        have hv := (fullF_get.1 hv).2
        have hyv : yielded ops a.tmps k = boolV v := by
          unfold yielded
          rw [hopg]
          simp only [Option.bind_some, hd]
          rw [Array.getD_eq_getD_getElem?, Array.getElem?_eq_getElem (by rw [hsz]; exact hdn)] at hv
          rw [Array.getElem?_eq_getElem (by rw [hsz]; exact hdn)]
          simp only [Option.getD_some] at hv
          rw [hv]
          cases v <;> rfl
        rw [hm3] at hvr
        have := cbool_rel hvr; subst this
        exact (hguard (some true) (by rw [hgd]; simp only [hyv]; cases b <;> rfl)).2 rfl
    unfold wpOp
    rw [hop]
    cases hdd : r.dead with
    | true =>
      obtain ⟨k, hbk, hik⟩ := hbad1 i r hri hdd
      rcases hik with rfl | hik
      · obtain ⟨q, a0, core, _, g1, g2, g3⟩ := hbad2 i hbk
        have : q = r := by rw [hri] at g1; exact (Option.some.inj g1).symm
        subst this
        obtain ⟨r0, tch, _, _, _, _, p1, _, p3, _⟩ := g2.out
        have : r0 = q := by rw [hri] at p1; exact (Option.some.inj p1).symm
        subst this
        simp only [hlets p3, if_true]
        left
        exact panD hk hE h hlen rfl hF0 hH0 hpin hacc.mono hcl hri g2 hDi hpre hsz hdf hsim (HP a0 _ g3)
      · have := hnb k hbk
        rw [hpre k hik] at this; cases this
    | false =>
    have hnbi : ¬ bad i := fun hb => by
      obtain ⟨q, a0, core, _, g1, g2, g3⟩ := hbad2 i hb
      obtain ⟨r0, tch, _, _, _, _, p1, p2, _⟩ := g2.out
      have : r0 = r := by rw [hri] at p1; exact (Option.some.inj p1).symm
      subst this
      rw [hdd] at p2; cases p2
    simp only [hwant hdd]
    cases hs : r.skip with
    | true =>
      simp only [Bool.not_true]
      rw [if_neg (by simp)]
      obtain ⟨h1, h2, _⟩ := act_put (v := undef) hsz hrk.dst
      refine keepI hnbi _ _ h1 (by rw [h2, hdf]) ⟨S, φ, slot_put hk h (N := Hc.length) hri hsz ?_ fun _ => ?_⟩
      · have e1 : ∀ e, hF (withD (Dl listed) i) rs (base H) e = hF (Dl listed) rs (base H) e := fun e => by
          rw [h.put hcl hri hDi]
          have : upR r e = none := by unfold upR; rw [hs]
          rw [upG_none (hrk.skip hs).2, this]; rfl
        have e2 : hF (withD (Dl listed) i) rs (base H) = hF (Dl listed) rs (base H) := funext e1
        rw [e2]; exact hsim
      · rw [(hrk.skip hs).1]
        exact ⟨rfl, fun i hi => (by cases hi), trivial⟩
    | false =>
      simp only [Bool.not_false, if_true]
      left
      cases hl : r.loc with
      | none => exact Oper.wp_mono (fun a' w' hX => keepI hnbi a' w' hX.1 hX.2.1 hX.2.2) (stepD (Q := Q) hk hE h hlen rfl hF0 hH0 hpin hacc.mono hcl hri hDi hpre hs hl hsz hdf hsim)
      | some p => obtain ⟨k, c, sv⟩ := p; exact Oper.wp_mono (fun a' w' hX => keepI hnbi a' w' hX.1 hX.2.1 hX.2.2) (stepL (Q := Q) hk hE h hlen hacc.mono hF0 hcl hri hl hDi hpre hsz hdf hsim)
  · -- the end
    intro listed a w hI hready
    obtain ⟨hls, hcl1, hsz, hdf, hnb, S, φ, hsim⟩ := hI
    have hall : ∀ i, i < ops.size → Dl listed i = true := by
      intro i
      induction i using Nat.strongRecOn with
      | _ i ih =>
        intro hi
        cases hD : Dl listed i with
        | true => rfl
        | false =>
          have : i ∈ Region.ready .any ops listed := readyI listed i hi (by
            have hD : listed.getD i false = false := hD
            rw [Array.getD_eq_getD_getElem?] at hD ⊢
            rw [Array.getElem?_eq_getElem (by omega)] at hD ⊢
            simpa using hD) fun j hj => by
              have := Tp.lt hk.back (.one hj) hi
              exact ih j this (by omega)
          rw [hready] at this; cases this
    have hmem : ∀ q ∈ rs, Dl listed q.d.j = true := fun q hq => by
      obtain ⟨k, hk'⟩ := List.mem_iff_getElem?.1 hq
      rw [h.idx hk']
      exact hall k (by have := (List.getElem?_eq_some_iff.1 hk').1; omega)
    have e1 : hF (Dl listed) rs (base H) = hF allD rs (base H) := funext fun e => hF_congr rfl fun q hq _ => hmem q hq
    have hHc : mkH Hc.length (hF (Dl listed) rs (base H)) = Hc := by
      apply List.ext_getElem?
      intro e
      by_cases he : e < Hc.length
      · rw [mkH_get.2 ⟨he, rfl⟩, e1, hacc.hc e he]
      · rw [List.getElem?_eq_none (by rw [mkH_len]; omega), List.getElem?_eq_none (by omega)]
    have hsim' : Sim T w0 S0 ⟨mkF (fF (Dl listed) rs (F.get T)) n, Hc⟩ (fullF a n) w S φ := by
      have := hsim
      unfold StD at this
      rw [hHc] at this; exact this
    have hfin : Sim T w0 S0 ⟨FF, Hc⟩ (fullF a n) w S φ := by
      have hget : ∀ t x, FF.get T t = some x → (mkF (fF (Dl listed) rs (F.get T)) n).get T t = some x := by
        intro t x hx
        rw [hacc.ff] at hx
        have e2 : fF (Dl listed) rs (F.get T) t = fF allD rs (F.get T) t := by
          by_cases hw : ∃ q ∈ rs, q.o.dst = some t
          · obtain ⟨q, hq, hd⟩ := hw
            rw [fF_at hq hd fun q' hq' hd' => h.uniq hk hq' hq hd' hd, fF_at hq hd fun q' hq' hd' => h.uniq hk hq' hq hd' hd, hmem q hq]; rfl
          · rw [fF_none fun q hq hd => hw ⟨q, hq, hd⟩, fF_none fun q hq hd => hw ⟨q, hq, hd⟩]
        refine mkF_get.2 ⟨?_, by rw [e2]; exact hx⟩
        by_cases hw : ∃ q ∈ rs, q.o.dst = some t
        · obtain ⟨q, hq, hd⟩ := hw
          obtain ⟨i, hqi⟩ := List.mem_iff_getElem?.1 hq
          have hopi := (h i q hqi).op
          exact hk.dst q.d.j t (Array.getElem?_eq_some_iff.1 hopi).1 (by rw [dstOf_of hopi]; exact hd)
        · rw [fF_none fun q hq hd => hw ⟨q, hq, hd⟩] at hx
          exact (hF0 t x hx).1
      exact ⟨fun t x hx => hsim'.fr t x (hget t x hx), fun t x hx => hsim'.ids t x (hget t x hx), hsim'.chg, hsim'.own, hsim'.ex, hsim'.lives, hsim'.pins, hsim'.ents, hsim'.eids, hsim'.apart⟩
    rcases hbad3 with ⟨k, hk3⟩ | hK
    · exfalso
      obtain ⟨q, _, _, _, g1, _⟩ := hbad2 k hk3
      have h1 := hall k (by have := (List.getElem?_eq_some_iff.1 g1).1; omega)
      rw [hnb k hk3] at h1; cases h1
    · exact HK _ hK _ _ ⟨S, φ, hfin⟩ a (fullF_fr hsz hdf)
  · -- nothing is done yet
    exfalso
    have hi : (Array.replicate ops.size false).getD i false = true := hi
    rw [Array.getD_eq_getD_getElem?, Array.getElem?_replicate] at hi
    split at hi <;> cases hi
  · show (Array.replicate ops.size false).getD k false = false
    rw [Array.getD_eq_getD_getElem?, Array.getElem?_replicate]
    split <;> rfl
  · have hdr : Chg [] w { w with drawn := w.drawn + 1 } := ⟨rfl, rfl, rfl, Nat.le_refl _, fun k _ _ => rfl⟩
    have h1 := hs.pure hdr
    have hnoD : ∀ k, Dl (Array.replicate ops.size false) k = false := fun k => by
      show (Array.replicate ops.size false).getD k false = false
      rw [Array.getD_eq_getD_getElem?, Array.getElem?_replicate]
      split <;> rfl
    have e1 : ∀ e, hF (Dl (Array.replicate ops.size false)) rs (base H) e = base H e := fun e => hF_none fun q _ hq => by rw [hnoD] at hq; cases hq
    have h2 := h1.pad (H' := mkH Hc.length (hF (Dl (Array.replicate ops.size false)) rs (base H))) (by rw [mkH_len]; exact hacc.le) fun e f hf => by
      obtain ⟨_, rfl⟩ := mkH_get.1 hf
      rw [e1]
      unfold base
      cases hg : H[e]? with
      | none => exact .inl rfl
      | some x => exact .inr rfl
    have hget : ∀ t x, (mkF (fF (Dl (Array.replicate ops.size false)) rs (F.get T)) n).get T t = some x → F.get T t = some x := by
      intro t x hx
      obtain ⟨_, hx⟩ := mkF_get.1 hx
      by_cases hw : ∃ q ∈ rs, q.o.dst = some t
      · obtain ⟨q, hq, hd⟩ := hw
        rw [fF_at hq hd fun q' hq' hd' => h.uniq hk hq' hq hd' hd, hnoD] at hx; exact hx
      · rw [fF_none fun q hq hd => hw ⟨q, hq, hd⟩] at hx; exact hx
    refine ⟨fun t x hx => ?_, fun t x hx => h2.ids t x (hget t x hx), h2.chg, h2.own, h2.ex, h2.lives, h2.pins, h2.ents, h2.eids, h2.apart⟩
    obtain ⟨v, hv, hvr⟩ := h2.fr t x (hget t x hx)
    have := ha.val t v hv
    exact ⟨v, fullF_get.2 ⟨this.2, this.1⟩, hvr⟩
theorem regD_sound {F : AF T} {H : List (Ent T.U)} {F' : PF} {R : Type} {r : R} {rid : Nat} (hE : EnvOk T P C.E) (hm : P.follows .mixedOrders = true) {pm : Bool} {Kp : AV T.U → St T → Option R} {K : St T → Option R} (HK : ∀ st, K st = some r → RKont Q n ds w0 S0 st) (HP : ∀ a st, Kp a st = some r → PKont Q n ds w0 S0 a st) (hr : regD T P C ops n pm Kp K ⟨F, H⟩ = some r) (hs : Sim T w0 S0 ⟨F, H⟩ F' w S φ) :
    CW P (.region rid ops true) Q n ds F' w :=
  fun a ha => wp_region_any hm (regD_any hE HK HP hr hs a ha)
end
end Go.X
