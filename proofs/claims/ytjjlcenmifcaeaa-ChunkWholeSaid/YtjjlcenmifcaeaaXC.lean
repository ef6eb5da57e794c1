/- What a step comes to does not hang on what stands behind it; what it changes. Nothing here is about one program. -/
import Derived.Test.YtjjlcenmifcaeaaX11
namespace Go.X
open Go.RowKit Go.V

section
variable {T : Tab} {P : Program} {C : Ctx T} {R : Type} {r : R} {H : List (Ent T.U)} {o : Oper}
/-- a value is handed on. -/
abbrev Det (f : {R : Type} → (AV T.U → Option R) → Option R) (K : AV T.U → Option R) (r : R) : Prop := ∃ a, K a = some r ∧ ∀ {R' : Type} (K' : AV T.U → Option R'), f K' = K' a
theorem pickA_det {c : Bool} {x y : AV T.U} {K : AV T.U → Option R} (h : pickA c x y K = some r) : Det (fun K => pickA c x y K) K r := by
  unfold pickA at h
  split at h
  · rename_i z hz; exact ⟨z, h, fun K' => by simp only [pickA, hz]⟩
  · rename_i hz
    split at h
    · rename_i hb
      by_cases hc : c = true
      · rw [if_pos hc] at h; exact ⟨x, h, fun K' => by simp only [pickA, hz, hb, if_pos hc]⟩
      · rw [if_neg hc] at h; exact ⟨y, h, fun K' => by simp only [pickA, hz, hb, if_neg hc]⟩
    · cases h
theorem divA_det {b : BinOp} {x y : AV T.U} {K : AV T.U → Option R} (h : divA T b x y K = some r) : Det (fun K => divA T b x y K) K r := by
  unfold divA at h
  split at h
  · split at h
    · rename_i hk
      unfold divA.divI at h
      obtain ⟨h0, h⟩ := iteNone h
      exact ⟨_, h, fun K' => by simp only [divA, hk, divA.divI, if_neg h0]⟩
    · cases h
  · split at h
    · rename_i hk
      unfold divA.remI at h
      obtain ⟨h0, h⟩ := iteNone h
      exact ⟨_, h, fun K' => by simp only [divA, hk, divA.remI, if_neg h0]⟩
    · cases h
  · unfold divA.shlI at h
    obtain ⟨h0, h⟩ := iteNone h
    exact ⟨_, h, fun K' => by simp only [divA, divA.shlI, if_neg h0]⟩
  · unfold divA.shrI at h
    obtain ⟨h0, h⟩ := iteNone h
    exact ⟨_, h, fun K' => by simp only [divA, divA.shrI, if_neg h0]⟩
  · cases h
theorem strAt_det {s : ByteArray} {j : Int} {K : Int → Option R} (h : strAt s j K = some r) : ∃ a, K a = some r ∧ ∀ {R' : Type} (K' : Int → Option R'), strAt s j K' = K' a := by
  unfold strAt at h
  split at h
  · rename_i b hb; exact ⟨_, h, fun K' => by simp only [strAt, hb]⟩
  · cases h
theorem indexA_det {t : TypeId} {s : AV T.U} {j : Int} {K : AV T.U → Option R} (h : indexA T P t H s j K = some r) : Det (fun K => indexA T P t H s j K) K r := by
  unfold indexA at h
  split at h
  · split at h
    · rename_i he
      obtain ⟨h0, h⟩ := iteOpt h
      exact ⟨_, h, fun K' => by simp only [indexA, he, if_pos h0]⟩
    · cases h
  · split at h
    · rename_i hi
      split at h
      · rename_i he
        obtain ⟨h0, h⟩ := iteOpt h
        exact ⟨_, h, fun K' => by simp only [indexA, hi, he, if_pos h0]⟩
      · cases h
    · cases h
  · split at h
    · rename_i hi
      split at h
      · rename_i he hs
        obtain ⟨h0, h⟩ := iteOpt h
        obtain ⟨h1, h⟩ := iteOpt h
        exact ⟨_, h, fun K' => by simp only [indexA, hi, he, hs, if_pos h0, if_pos h1]⟩
      · cases h
    · rename_i hi
      split at h
      · rename_i s hs
        split at h
        · rename_i hb
          obtain ⟨h0, h⟩ := iteOpt h
          exact ⟨_, h, fun K' => by simp only [indexA, hi, hs, hb, if_pos h0]⟩
        · cases h
      · cases h
    · cases h
  · split at h
    · rename_i s hs
      split at h
      · rename_i hb
        obtain ⟨h0, h⟩ := iteOpt h
        exact ⟨_, h, fun K' => by simp only [indexA, hs, hb, if_pos h0]⟩
      · cases h
    · cases h
  · cases h
theorem sliceA_det {t : TypeId} {s : AV T.U} {lo hi : Option Int} {K : AV T.U → Option R} (h : sliceA T P t H s lo hi K = some r) : Det (fun K => sliceA T P t H s lo hi K) K r := by
  unfold sliceA at h
  split at h
  · simp only at h
    split at h
    · rename_i he
      obtain ⟨h0, h⟩ := iteOpt h
      exact ⟨_, h, fun K' => by simp only [sliceA, he, if_pos h0]⟩
    · cases h
  · split at h
    · rename_i hi
      simp only at h
      split at h
      · rename_i he
        obtain ⟨h0, h⟩ := iteOpt h
        exact ⟨_, h, fun K' => by simp only [sliceA, hi, he, if_pos h0]⟩
      · cases h
    · cases h
  · split at h
    · rename_i hi
      simp only at h
      split at h
      · rename_i he hs
        obtain ⟨h0, h⟩ := iteOpt h
        exact ⟨_, h, fun K' => by simp only [sliceA, hi, he, hs, if_pos h0]⟩
      · cases h
    · cases h
  · simp only at h
    split at h
    · rename_i he
      split at h
      · rename_i hb
        obtain ⟨h0, h⟩ := iteOpt h
        exact ⟨_, h, fun K' => by simp only [sliceA, he, hb, if_pos h0]⟩
      · cases h
    · cases h
  · cases h
theorem readB_det {st : St T} {K : AV T.U → Option R} (h : readB P o st K = some r) : Det (fun K => readB P o st K) K r := by
  unfold readB at h
  split at h
  · rename_i a ha
    split at h
    · rename_i hm; exact ⟨a, h, fun K' => by simp only [readB, ha, hm]⟩
    · cases h
  · rename_i hp
    split at h
    · rename_i hop
      rw [hop] at hp
      split at h
      · rename_i hc hx hy
        obtain ⟨a, h1, h2⟩ := pickA_det h
        exact ⟨a, h1, fun K' => by simp only [readB, hp, hop, hc, hx, hy]; exact h2 K'⟩
      · cases h
    · rename_i hop
      rw [hop] at hp
      split at h
      · rename_i hx hy
        obtain ⟨a, h1, h2⟩ := divA_det h
        exact ⟨a, h1, fun K' => by simp only [readB, hp, hop, hx, hy]; exact h2 K'⟩
      · cases h
    · rename_i hop
      rw [hop] at hp
      split at h
      · rename_i hx
        split at h
        · rename_i a hl; exact ⟨a, h, fun K' => by simp only [readB, hp, hop, hx, hl]⟩
        · cases h
      · cases h
    · rename_i hop
      rw [hop] at hp
      split at h
      · rename_i hs hd hx
        split at h
        · rename_i he
          obtain ⟨xs, h1, h2⟩ := rdF_det (t := .list (.int .u8)) h
          exact ⟨_, h1, fun K' => by simp only [readB, hp, hop, hs, hd, hx, he]; exact h2 _⟩
        · cases h
      · cases h
    · rename_i hop
      rw [hop] at hp
      split at h
      · rename_i hu hx hy
        obtain ⟨a, h1, h2⟩ := strAt_det h
        exact ⟨_, h1, fun K' => by simp only [readB, hp, hop, hu, hx, hy]; exact h2 _⟩
      · cases h
    · rename_i hop
      rw [hop] at hp
      split at h
      · rename_i hx hy
        obtain ⟨a, h1, h2⟩ := indexA_det h
        exact ⟨a, h1, fun K' => by simp only [readB, hp, hop, hx, hy]; exact h2 K'⟩
      · cases h
    · rename_i hop
      rw [hop] at hp
      split at h
      · rename_i l m hx hl hh
        split at h
        · cases h
        · rename_i hn
          obtain ⟨a, h1, h2⟩ := sliceA_det h
          refine ⟨a, h1, fun K' => ?_⟩
          simp only [readB, hp, hop, hx, hl, hh]
          try exact h2 K'
          all_goals first | exact h2 K' | (split <;> first | exact h2 K' | exact absurd rfl (by simp_all))
      · cases h
    · rename_i hop
      rw [hop] at hp
      split at h
      · rename_i a hx
        split at h
        · rename_i b hb
          split at h
          · rename_i hn; exact ⟨b, h, fun K' => by simp only [readB, hp, hop, hx, hb, hn]⟩
          · cases h
        · cases h
      · cases h
    · rename_i c hop
      rw [hop] at hp
      split at h
      · cases h
      · rename_i as has
        split at h
        · rename_i hc
          split at h
          · rename_i a t hat
            split at h
            · rename_i z hz; exact ⟨_, h, fun K' => by simp only [readB, hp, hop, has, hc, hat, hz]⟩
            · rename_i hz; split at h
              · rename_i z hz2; exact ⟨_, h, fun K' => by simp only [readB, hp, hop, has, hc, hat, hz, hz2]⟩
              · cases h
          · cases h
        · rename_i hc
          split at h
          · rename_i a ha; exact ⟨_, h, fun K' => by simp only [readB, hp, hop, has, hc, ha]⟩
          · cases h
        · rename_i hc
          split at h
          · rename_i a ha; exact ⟨_, h, fun K' => by simp only [readB, hp, hop, has, hc, ha]⟩
          · cases h
        · cases h
    · cases h
theorem indexR_det {n sz : Nat} {s : AV T.U} {j : Int} {K : AV T.U → Option R} (h : indexR T n sz H s j K = some r) : Det (fun K => indexR T n sz H s j K) K r := by
  unfold indexR at h
  split at h
  · split at h
    · rename_i hi
      split at h
      · rename_i hl
        split at h
        · rename_i ha
          split at h
          · rename_i hb
            obtain ⟨h0, h⟩ := iteOpt h
            exact ⟨_, h, fun K' => by simp only [indexR, hi, hl, ha, hb, if_pos h0]⟩
          · cases h
        · rename_i ha
          obtain ⟨h0, h⟩ := iteOpt h
          exact ⟨_, h, fun K' => by simp only [indexR, hi, hl, ha, if_pos h0]⟩
      · cases h
    · cases h
  · split at h
    · rename_i hb
      obtain ⟨h0, h⟩ := iteOpt h
      obtain ⟨h1, h⟩ := iteOpt h
      exact ⟨_, h, fun K' => by simp only [indexR, hb, if_pos h0, if_pos h1]⟩
    · cases h
  · split at h
    · rename_i hi
      split at h
      · rename_i hb
        obtain ⟨h0, h⟩ := iteOpt h
        obtain ⟨h1, h⟩ := iteOpt h
        exact ⟨_, h, fun K' => by simp only [indexR, hi, hb, if_pos h0, if_pos h1]⟩
      · cases h
    · cases h
  · cases h
theorem sliceR_det {n sz : Nat} {s : AV T.U} {lo hi : Option Int} {K : AV T.U → Option R} (h : sliceR T n sz H s lo hi K = some r) : Det (fun K => sliceR T n sz H s lo hi K) K r := by
  unfold sliceR at h
  simp only at h
  split at h
  · split at h
    · rename_i hi
      split at h
      · rename_i hl
        split at h
        · rename_i ha
          split at h
          · rename_i hb
            obtain ⟨h0, h⟩ := iteOpt h
            exact ⟨_, h, fun K' => by simp only [sliceR, hi, hl, ha, hb, if_pos h0]⟩
          · cases h
        · cases h
      · cases h
    · cases h
  · split at h
    · rename_i hb
      obtain ⟨h0, h⟩ := iteOpt h
      obtain ⟨h1, h⟩ := iteOpt h
      exact ⟨_, h, fun K' => by simp only [sliceR, hb, if_pos h0, if_pos h1]⟩
    · cases h
  · cases h
theorem arrOfA_det {n sz : Nat} {s : AV T.U} {K : AV T.U → Option R} (h : arrOfA T n sz H s K = some r) : Det (fun K => arrOfA T n sz H s K) K r := by
  unfold arrOfA at h
  split at h
  · split at h
    · rename_i hb
      obtain ⟨h0, h⟩ := iteOpt h
      exact ⟨_, h, fun K' => by simp only [arrOfA, hb, if_pos h0]⟩
    · cases h
  · split at h
    · rename_i hi
      split at h
      · rename_i hb
        obtain ⟨h0, h⟩ := iteOpt h
        exact ⟨_, h, fun K' => by simp only [arrOfA, hi, hb, if_pos h0]⟩
      · cases h
    · cases h
  · cases h
theorem loadR_det {n sz : Nat} {ok : Bool} {s : AV T.U} {ob : Option (AV T.U)} {K : AV T.U → Option R} (h : loadR T n sz ok H s K (obind ob K) = some r) : Det (fun K => loadR T n sz ok H s K (obind ob K)) K r := by
  unfold loadR at h
  split at h
  · split at h
    · rename_i hb
      obtain ⟨h0, h⟩ := iteOpt h
      exact ⟨_, h, fun K' => by simp only [loadR, hb, if_pos h0]⟩
    · rename_i hb
      obtain ⟨a, rfl, h⟩ := obind_some h
      exact ⟨a, h, fun K' => by simp only [loadR, hb, obind]⟩
  · split at h
    · rename_i hi
      split at h
      · rename_i hb
        obtain ⟨h0, h⟩ := iteOpt h
        exact ⟨_, h, fun K' => by simp only [loadR, hi, hb, if_pos h0]⟩
      · rename_i hb
        obtain ⟨a, rfl, h⟩ := obind_some h
        exact ⟨a, h, fun K' => by simp only [loadR, hi, hb, obind]⟩
    · rename_i hi
      obtain ⟨a, rfl, h⟩ := obind_some h
      refine ⟨a, h, fun K' => ?_⟩
      simp only [loadR]
      rfl
  · rename_i h1 h2
    obtain ⟨a, rfl, h⟩ := obind_some h
    refine ⟨a, h, fun K' => ?_⟩
    unfold loadR
    split
    · exact absurd rfl (h1 _ _ _ _)
    · exact absurd rfl (h2 _ _ _ _)
    · rfl
theorem indexV_det {n sz : Nat} {s : AV T.U} {j : Int} {K : AV T.U → Option R} (h : indexV T n sz s j K = some r) : Det (fun K => indexV T n sz s j K) K r := by
  unfold indexV at h
  split at h
  · split at h
    · rename_i hb
      obtain ⟨h0, h⟩ := iteOpt h
      exact ⟨_, h, fun K' => by simp only [indexV, hb, if_pos h0]⟩
    · cases h
  · split at h
    · rename_i hb hr
      obtain ⟨h0, h⟩ := iteOpt h
      exact ⟨_, h, fun K' => by simp only [indexV, hb, hr, if_pos h0]⟩
    · cases h
  · cases h
theorem lookM_det {co : Bool} {z : AV T.U} {x : Int} {K : AV T.U → Option R} : ∀ {es : List (Int × AV T.U)}, lookM T co z x K es = some r → Det (fun K => lookM T co z x K es) K r
  | [], h => ⟨_, h, fun K' => rfl⟩
  | (y, a) :: es, h => by
    unfold lookM at h
    split at h
    · rename_i he
      exact ⟨_, h, fun K' => by simp only [lookM, if_pos he]⟩
    · rename_i he
      obtain ⟨b, h1, h2⟩ := lookM_det h
      exact ⟨b, h1, fun K' => by simp only [lookM, if_neg he]; exact h2 K'⟩
theorem lookA_det {t : TypeId} {co : Bool} {m : AV T.U} {kx : IntKind} {x : Int} {K : AV T.U → Option R} (h : lookA T P t co H m kx x K = some r) : Det (fun K => lookA T P t co H m kx x K) K r := by
  unfold lookA at h
  split at h
  · rename_i hm
    split at h
    · rename_i hi
      split at h
      · rename_i hb hz
        obtain ⟨b, h1, h2⟩ := lookM_det h
        exact ⟨b, h1, fun K' => by simp only [lookA, hm, hi, hb, hz]; exact h2 K'⟩
      · cases h
    · rename_i hi
      split at h
      · rename_i hb; exact ⟨_, h, fun K' => by simp only [lookA, hm, hi, hb]⟩
      · cases h
    · cases h
  · cases h
theorem readR_det {st : St T} {K : AV T.U → Option R} (h : readR P o st K = some r) : Det (fun K => readR P o st K) K r := by
  unfold readR at h
  split at h
  · rename_i hop
    split at h
    · rename_i hai hx hy
      obtain ⟨a, h1, h2⟩ := indexR_det h
      exact ⟨a, h1, fun K' => by simp only [readR, hop, hai, hx, hy]; exact h2 K'⟩
    · cases h
  · rename_i hop
    split at h
    · rename_i hai hx hy hel
      obtain ⟨a, h1, h2⟩ := indexV_det h
      exact ⟨a, h1, fun K' => by simp only [readR, hop, hai, hx, hy, hel]; exact h2 K'⟩
    · cases h
  · rename_i hop
    split at h
    · rename_i hai hx hl hh
      obtain ⟨a, h1, h2⟩ := sliceR_det h
      exact ⟨a, h1, fun K' => by simp only [readR, hop, hai, hx, hl, hh]; exact h2 K'⟩
    · cases h
  · rename_i hop
    split at h
    · rename_i hai hx
      obtain ⟨a, h1, h2⟩ := arrOfA_det h
      exact ⟨a, h1, fun K' => by simp only [readR, hop, hai, hx]; exact h2 K'⟩
    · cases h
  · rename_i hop
    split at h
    · rename_i hai hx
      obtain ⟨a, h1, h2⟩ := loadR_det h
      exact ⟨a, h1, fun K' => by simp only [readR, hop, hai, hx]; exact h2 K'⟩
    · cases h
  · rename_i hop
    split at h
    · rename_i a hx
      split at h
      · rename_i hs
        exact ⟨a, h, fun K' => by simp only [readR, hop, hx, hs]⟩
      · cases h
    · cases h
  · rename_i hop
    split at h
    · rename_i hm hx
      obtain ⟨b, h1, h2⟩ := lookA_det h
      simp only at h1
      split at h1
      · rename_i hn
        exact ⟨b, h1, fun K' => by simp only [readR, hop, hm, hx]; refine (h2 _).trans ?_; simp only [hn]⟩
      · cases h1
    · cases h
  · cases h
theorem readA_det {st : St T} {K : AV T.U → Option R} (h : readA P o st K = some r) : Det (fun K => readA P o st K) K r := by
  unfold readA at h
  split at h
  · rename_i ho
    obtain ⟨a, h1, h2⟩ := readR_det h
    exact ⟨a, h1, fun K' => by simp only [readA, ho]; exact h2 K'⟩
  · rename_i ho
    obtain ⟨a, h1, h2⟩ := readB_det h
    exact ⟨a, h1, fun K' => by simp only [readA, ho]; exact h2 K'⟩
/-! ### What a step changes -/
def wrA (C : Ctx T) (o : Oper) (st : St T) : List Nat :=
  match o.op with
  | .store _ x _ => match aev T st.F x with | some a => a.ids | none => []
  | .insert _ m _ _ => match aev T st.F m with | some a => a.ids | none => []
  | .mapUpdate _ m _ _ => match aev T st.F m with | some a => a.ids | none => []
  | .convert _ d x => match C.ty d, aev T st.F x with | some _, some a => a.ids | _, _ => []
  | .call c => match aevL T st.F c.args.toList with
    | none => []
    | some as => match c.callee with
      | .value f => match aev T st.F f with
        | some (.fn (.func g) first caps) => (match findE C.E g with | some cs => cs.wr (first ++ as ++ caps) st.H | none => [])
        | _ => []
      | .builtin .append => match as with | s :: _ => s.ids | [] => []
      | .builtin .clear => match as with | s :: _ => s.ids | [] => []
      | .builtin .delete => match as with | s :: _ => s.ids | [] => []
      | _ => []
  | _ => []
theorem Keeps.refl (l : List Nat) : Keeps T l H H := ⟨Nat.le_refl _, fun _ _ _ => rfl, fun _ _ _ ys _ h => ⟨ys, h⟩⟩
theorem Keeps.app {l : List Nat} {es : List (Ent T.U)} : Keeps T l H (H ++ es) :=
  ⟨by simp, fun e he _ => List.getElem?_append_left he, fun e ty t ys he h => ⟨ys, by rwa [List.getElem?_append_left he] at h⟩⟩
theorem Keeps.set {l : List Nat} {i : Nat} {x : Ent T.U} (hi : i ∈ l) (hr : ∀ (ty : TypeId) (t : Ty) (ys : List (den T.U t)), x = .row ty t ys → ∃ xs, H[i]? = some (.row ty t xs)) : Keeps T l H (H.set i x) := by
  refine ⟨by simp, fun e he hn => ?_, fun e ty t ys he h => ?_⟩
  · rw [List.getElem?_set_ne (fun e' : i = e => hn (e' ▸ hi))]
  · by_cases hie : i = e
    · subst hie
      rw [List.getElem?_set_self he] at h
      simp only [Option.some.injEq] at h
      exact hr ty t ys h
    · rw [List.getElem?_set_ne hie] at h; exact ⟨ys, h⟩
theorem Keeps.setApp {l : List Nat} {i : Nat} {x : Ent T.U} {es : List (Ent T.U)} (h : Keeps T l H (H.set i x)) : Keeps T l H (H.set i x ++ es) := by
  refine ⟨by simp, fun e he hn => ?_, fun e ty t ys he h1 => ?_⟩
  · rw [List.getElem?_append_left (by simpa using he)]; exact h.same e he hn
  · rw [List.getElem?_append_left (by simpa using he)] at h1; exact h.row e ty t ys he h1
theorem storeA_keeps {t : TypeId} {p a : AV T.U} {H1 : List (Ent T.U)} (h : storeA T P t H p a = some H1) : Keeps T p.ids H H1 := by
  unfold storeA at h
  split at h
  · split at h
    · rename_i i o0 e cs hi
      split at h
      · simp only [Option.some.injEq] at h; subst h
        exact .set (by simp [AV.ids]) fun _ _ _ h => by cases h
      · cases h
    · cases h
  · split at h
    · split at h
      · split at h
        · simp only [Option.some.injEq] at h; subst h
          exact .set (by simp [AV.ids]) fun _ _ _ h => by cases h
        · cases h
      · cases h
    · cases h
  · split at h
    · rename_i i o0 k0 c0 e ty xs hi
      split at h
      · split at h
        · rename_i y hy
          simp only [Option.some.injEq] at h; subst h
          refine .set (by simp [AV.ids]) fun ty' t' ys h => ?_
          simp only [Ent.row.injEq] at h
          obtain ⟨rfl, rfl, _⟩ := h
          exact ⟨xs, hi⟩
        · cases h
      · cases h
    · cases h
  · cases h
theorem insA_keeps {t : TypeId} {m : AV T.U} {kx : IntKind} {x : Int} {a : AV T.U} {H1 : List (Ent T.U)} (h : insA T P t H m kx x a = some H1) : Keeps T m.ids H H1 := by
  unfold insA at h
  split at h
  · split at h
    · split at h
      · simp only [Option.some.injEq] at h; subst h
        exact .set (by simp [AV.ids]) fun _ _ _ h => by cases h
      · cases h
    · split at h
      · simp only [Option.some.injEq] at h; subst h
        exact .set (by simp [AV.ids]) fun _ _ _ h => by cases h
      · cases h
    · cases h
  · cases h
theorem delA_keeps {t : TypeId} {m : AV T.U} {kx : IntKind} {x : Int} {H1 : List (Ent T.U)} (h : delA T P t H m kx x = some H1) : Keeps T m.ids H H1 := by
  unfold delA at h
  split at h <;> try (cases h; done)
  split at h <;> try (cases h; done)
  all_goals
    split at h <;> try (cases h; done)
    simp only [Option.some.injEq] at h; subst h
    exact .set (by simp [AV.ids]) fun _ _ _ h => by cases h
/-- a value and entries are handed on. -/
abbrev Det2 (f : {R : Type} → (AV T.U → List (Ent T.U) → Option R) → Option R) (K : AV T.U → List (Ent T.U) → Option R) (l : List Nat) (H : List (Ent T.U)) (r : R) : Prop :=
  ∃ a H1, K a H1 = some r ∧ Keeps T l H H1 ∧ ∀ {R' : Type} (K' : AV T.U → List (Ent T.U) → Option R'), f K' = K' a H1
theorem rowX_det {R : Type} {r : R} {ty : Ty} {a : AV T.U} {K : List (den T.U ty) → Option R} (h : appA.rowX T ty H a K = some r) : ∃ xs, K xs = some r ∧ ∀ {R' : Type} (K' : List (den T.U ty) → Option R'), appA.rowX T ty H a K' = K' xs := by
  unfold appA.rowX at h
  split at h
  · rename_i hy; exact ⟨_, h, fun K' => by simp only [appA.rowX, hy]⟩
  · rename_i hy
    split at h <;> try (cases h; done)
    split at h <;> try (cases h; done)
    rename_i hi
    split at h <;> try (cases h; done)
    rename_i hsz
    split at h <;> try (cases h; done)
    rename_i ht
    split at h <;> try (cases h; done)
    rename_i hle
    exact ⟨_, h, fun K' => by simp only [appA.rowX, hy, hi, hsz, dif_pos ht, if_pos hle]⟩
theorem appA_det {ty : Ty} {t : TypeId} {s x : AV T.U} {K : AV T.U → List (Ent T.U) → Option R} (h : appA T P ty t H s x K = some r) : Det2 (fun K => appA T P ty t H s x K) K s.ids H r := by
  unfold appA at h
  split at h
  · rename_i he
    split at h
    · rename_i hb
      split at h
      · rename_i xs hx
        obtain ⟨ys, h, hd⟩ := rowX_det h
        obtain ⟨h0, h⟩ := iteOpt h
        refine ⟨_, _, h, ?_, fun K' => by simp only [appA, he, hb, hx, hd, if_pos h0]⟩
        unfold appA.goneA
        split
        · exact (Keeps.set (by simp [AV.ids]) fun _ _ _ h => by cases h).setApp
        · exact .app
      · cases h
    · cases h
  · cases h
theorem makeA_det {ty : Ty} {t : TypeId} {l c : Int} {K : AV T.U → List (Ent T.U) → Option R} (h : makeA T P ty t H l c K = some r) (w : List Nat) : Det2 (fun K => makeA T P ty t H l c K) K w H r := by
  unfold makeA at h
  split at h
  · rename_i he
    split at h
    · rename_i hs hz
      split at h
      · rename_i hx
        obtain ⟨h0, h⟩ := iteOpt h
        exact ⟨_, _, h, .app, fun K' => by simp only [makeA, he, hs, hz, hx, if_pos h0]⟩
      · cases h
    · cases h
  · cases h
theorem clearA_det {t : TypeId} {s : AV T.U} {K : AV T.U → List (Ent T.U) → Option R} (h : clearA T P t H s K = some r) : Det2 (fun K => clearA T P t H s K) K s.ids H r := by
  unfold clearA at h
  split at h <;> try (cases h; done)
  · split at h <;> try (cases h; done)
    rename_i hi hu
    exact ⟨_, _, h, .set (by simp [AV.ids]) (fun ty' t' ys h => by cases h), fun K' => by simp only [clearA, hi, hu]⟩
  split at h <;> try (cases h; done)
  rename_i hi
  split at h <;> try (cases h; done)
  rename_i he
  split at h <;> try (cases h; done)
  rename_i hs hz
  split at h <;> try (cases h; done)
  rename_i hx
  obtain ⟨h0, h⟩ := iteOpt h
  refine ⟨_, _, h, .set (by simp [AV.ids]) fun ty' t' ys h => ?_, fun K' => by simp only [clearA, hi, he, hs, hz, hx, if_pos h0]⟩
  simp only [Ent.row.injEq] at h
  obtain ⟨rfl, rfl, _⟩ := h
  exact ⟨_, hi⟩
theorem callA_det (hE : EnvOk T P C.E) {c : Call} (hop : o.op = .call c) {st : St T} {K Kp : AV T.U → List (Ent T.U) → Option R} (h : callA P C c st K Kp = some r) :
    (∃ a H1, K a H1 = some r ∧ Keeps T (wrA C o st) st.H H1 ∧ ∀ {R' : Type} (K' Kp' : AV T.U → List (Ent T.U) → Option R'), callA P C c st K' Kp' = K' a H1) ∨ ∃ a H1, Kp a H1 = some r ∧ Keeps T (wrA C o st) st.H H1 ∧ ∀ {R' : Type} (K' Kp' : AV T.U → List (Ent T.U) → Option R'), callA P C c st K' Kp' = Kp' a H1 := by
  unfold callA at h
  split at h
  · cases h
  · rename_i as has
    split at h
    · rename_i f hc
      split at h
      · rename_i g first caps hf
        split at h
        · rename_i cs he hcs
          split at h
          · rename_i hall
            rcases (hE g cs hcs).2.2 _ _ _ _ _ h with ⟨a, H1, h1, h2, h3⟩ | ⟨a, H1, h1, h2, h3⟩
            · refine .inl ⟨a, H1, h1, ?_, fun K' Kp' => by simp only [callA, has, hc, hf, he, hcs, hall, h3]⟩
              have : wrA C o st = cs.wr (first ++ as ++ caps) st.H := by simp only [wrA, hop, has, hc, hf, hcs]
              rw [this]; exact h2
            · refine .inr ⟨a, H1, h1, ?_, fun K' Kp' => by simp only [callA, has, hc, hf, he, hcs, hall, h3]⟩
              have : wrA C o st = cs.wr (first ++ as ++ caps) st.H := by simp only [wrA, hop, has, hc, hf, hcs]
              rw [this]; exact h2
          · cases h
        · cases h
      · cases h
    · rename_i hc
      split at h
      · rename_i s x t t' hat
        split at h
        · rename_i e htt he
          obtain ⟨a, H1, h1, h2, h3⟩ := appA_det h
          refine .inl ⟨a, H1, h1, ?_, fun K' Kp' => by simp only [callA, has, hc, hat, htt, he, h3]⟩
          have : wrA C o st = s.ids := by simp only [wrA, hop, has, hc]
          rw [this]; exact h2
        · cases h
      · cases h
    · rename_i hc
      split at h
      · rename_i s t hat
        obtain ⟨a, H1, h1, h2, h3⟩ := clearA_det h
        refine .inl ⟨a, H1, h1, ?_, fun K' Kp' => by simp only [callA, has, hc, hat, h3]⟩
        have : wrA C o st = s.ids := by simp only [wrA, hop, has, hc]
        rw [this]; exact h2
      · cases h
    · rename_i hc
      split at h
      · rename_i m kx x t at2 hat
        split at h <;> try (cases h; done)
        rename_i H1 hdl
        refine .inl ⟨_, H1, h, ?_, fun K' Kp' => by simp only [callA, has, hc, hat, hdl]⟩
        have : wrA C o st = m.ids := by simp only [wrA, hop, has, hc]
        rw [this]; exact delA_keeps hdl
      · cases h
    · cases h
theorem stepA_det (hE : EnvOk T P C.E) {st : St T} {K : St T → Option R} {Kp : AV T.U → St T → Option R} (h : stepA P C o st K Kp = some r) :
    (∃ a H1, K ⟨updA T st.F o.dst a, H1⟩ = some r ∧ Keeps T (wrA C o st) st.H H1 ∧ ∀ {R' : Type} (K' : St T → Option R') (Kp' : AV T.U → St T → Option R'), stepA P C o st K' Kp' = K' ⟨updA T st.F o.dst a, H1⟩) ∨ ∃ a st', Kp a st' = some r ∧ Keeps T (wrA C o st) st.H st'.H ∧ ∀ {R' : Type} (K' : St T → Option R') (Kp' : AV T.U → St T → Option R'), stepA P C o st K' Kp' = Kp' a st' := by
  have hread : readA P o st (fun a => K ⟨updA T st.F o.dst a, st.H⟩) = some r → (∀ {R' : Type} (K' : St T → Option R') (Kp' : AV T.U → St T → Option R'), stepA P C o st K' Kp' = readA P o st fun a => K' ⟨updA T st.F o.dst a, st.H⟩) →
      ∃ a H1, K ⟨updA T st.F o.dst a, H1⟩ = some r ∧ Keeps T (wrA C o st) st.H H1 ∧ ∀ {R' : Type} (K' : St T → Option R') (Kp' : AV T.U → St T → Option R'), stepA P C o st K' Kp' = K' ⟨updA T st.F o.dst a, H1⟩ := by
    intro h he
    obtain ⟨a, h1, h2⟩ := readA_det h
    exact ⟨a, st.H, h1, .refl _, fun K' Kp' => by rw [he]; exact h2 _⟩
  unfold stepA at h
  simp only at h
  split at h
  · rename_i hop
    split at h
    · rename_i cs hz
      split at h
      · rename_i cs' hl; exact .inl ⟨_, _, h, .app, fun K' Kp' => by simp only [stepA, hop, hz, hl]⟩
      · cases h
    · cases h
  · rename_i hop
    split at h
    · rename_i a ha
      split at h
      · rename_i hok; exact .inl ⟨_, _, h, .app, fun K' Kp' => by simp only [stepA, hop, ha, hok]⟩
      · cases h
    · cases h
  · rename_i hop
    split at h
    · rename_i hmk hty; exact .inl ⟨_, _, h, .app, fun K' Kp' => by simp only [stepA, hop, hmk, hty]⟩
    · rename_i hmk hty; exact .inl ⟨_, _, h, .app, fun K' Kp' => by simp only [stepA, hop, hmk, hty]⟩
    · cases h
  · rename_i hop
    split at h
    · rename_i hdst hm hx hv
      split at h
      · rename_i H1 hne hi
        refine .inl ⟨.raw undef, H1, by rw [hdst]; exact h, ?_, fun K' Kp' => by simp only [stepA, hop, hdst, hm, hx, hv, hne, hi]; rfl⟩
        have : ∀ l, wrA C o st = l → Keeps T l st.H H1 := by
          intro l hl'
          rw [← hl']
          simp only [wrA, hop, hm]
          exact insA_keeps hi
        exact this _ rfl
      · cases h
    · cases h
  · rename_i hop
    split at h
    · rename_i hdst hm hx hv
      split at h
      · rename_i H1 hne hi
        refine .inl ⟨.raw undef, H1, by rw [hdst]; exact h, ?_, fun K' Kp' => by simp only [stepA, hop, hdst, hm, hx, hv, hne, hi]; rfl⟩
        have : ∀ l, wrA C o st = l → Keeps T l st.H H1 := by
          intro l hl'
          rw [← hl']
          simp only [wrA, hop, hm]
          exact insA_keeps hi
        exact this _ rfl
      · cases h
    · cases h
  · rename_i hop
    split at h
    · rename_i hdst hx hy
      split at h
      · rename_i H1 hl
        refine .inl ⟨.raw undef, H1, by rw [hdst]; exact h, ?_, fun K' Kp' => by simp only [stepA, hop, hdst, hx, hy, hl]; rfl⟩
        have : ∀ l, wrA C o st = l → Keeps T l st.H H1 := by
          intro l hl'
          rw [← hl']
          simp only [wrA, hop, hx]
          exact storeA_keeps hl
        exact this _ rfl
      · cases h
    · cases h
  · rename_i hop
    split at h
    · rename_i hx hy he
      obtain ⟨a, H1, h1, h2, h3⟩ := makeA_det h (wrA C o st)
      exact .inl ⟨a, H1, h1, h2, fun K' Kp' => by simp only [stepA, hop, hx, hy, he]; exact h3 _⟩
    · cases h
  · rename_i hop
    split at h
    · rename_i l ty hl he
      split at h
      · rename_i e xs hb; exact .inl ⟨_, _, h, .app, fun K' Kp' => by simp only [stepA, hop, hl, he, hb]⟩
      · cases h
    · rename_i l hl he
      split at h
      · rename_i e sz cs hb; exact .inl ⟨_, _, h, .app, fun K' Kp' => by simp only [stepA, hop, hl, he, hb]⟩
      · cases h
    · cases h
  · rename_i c hop
    split at h
    · rename_i hr
      exact .inl (hread h fun K' Kp' => by simp only [stepA, hop, hr])
    · rename_i hr
      rcases callA_det hE hop h with ⟨a, H1, h1, h2, h3⟩ | ⟨a, H1, h1, h2, h3⟩
      · exact .inl ⟨a, H1, h1, h2, fun K' Kp' => by simp only [stepA, hop, hr]; exact h3 _ _⟩
      · exact .inr ⟨a, ⟨st.F, H1⟩, h1, h2, fun K' Kp' => by simp only [stepA, hop, hr]; exact h3 _ _⟩
  · rename_i s d x hop
    split at h
    · rename_i e b h1 h2 h3
      split at h
      · rename_i h4; exact .inl ⟨_, _, h, .refl _, fun K' Kp' => by simp only [stepA, hop, h1, h2, h3, h4]⟩
      · cases h
    · rename_i e i h1 h2 h3
      split at h
      · rename_i y xs hb hty h4 h5
        refine .inl ⟨_, _, h, .set (l := wrA C o st) ?_ (fun _ _ _ h => by cases h), fun K' Kp' => by simp only [stepA, hop, h1, h2, h3, hb, hty, h4, h5]⟩
        simp [wrA, hop, h3, hty, AV.ids]
      · cases h
    · rename_i hn
      refine .inl (hread h fun K' Kp' => ?_)
      unfold stepA
      simp only [hop]
  · rename_i x hop
    split at h
    · rename_i t a ha
      exact .inr ⟨_, _, h, .refl _, fun K' Kp' => by simp only [stepA, hop, ha]⟩
    · cases h
  · rename_i h1 h2 h3 h4 h5 h6 h7 h8 h9 h10 h11
    refine .inl (hread h fun K' Kp' => ?_)
    unfold stepA
    simp only
end
end Go.X
