import Derived.Test.YtcepemagnfpmdaaGreatAB
namespace Go.X
open Go.RowKit Go.V
def Sh.kshape : Sh -> Bool | .row _ _ => true | .dr _ _ _ => true | s => s.simple
section
variable (T : Tab)
def kcells (σ : Nat -> Nat) : (cs : List Sh) -> denL T cs -> Nat -> List (AV T.U)
 | [], _, _ => []
 | .row _ _ :: r, x, p => .own (σ p) :: kcells σ r x.2 (p + 1)
 | .dr _ _ _ :: r, x, p => .own (σ p) :: kcells σ r x.2 (p + 1)
 | s :: r, x, p => mkA T σ s x.1 0 :: kcells σ r x.2 p
def kents : (cs : List Sh) -> denL T cs -> List (Ent T.U)
 | [], _ => []
 | .row e t :: r, x => .row e t x.1 :: kents r x.2
 | .dr e d fe :: r, x => .drow e d fe x.1 none :: kents r x.2
 | _ :: r, x => kents r x.2
end
section
variable {T : Tab} {P : Program}
theorem simple_cnt {s : Sh} (h : s.simple = true) : s.cnt = 0 := by cases s <;> first | rfl | cases h
theorem simple_cntL : ∀ {ss : List Sh}, ss.all Sh.simple = true -> cntL ss = 0
 | [], _ => rfl
 | s :: r, h => by
  rw [List.all_cons, Bool.and_eq_true] at h
  rw [cntL, simple_cnt h.1, simple_cntL h.2]
theorem rdK {H : List (Ent T.U)} : ∀ (cs : List Sh), cs.all Sh.kshape = true -> ∀ (as : List (AV T.U)) (l0 l : Src) (x : denL T cs), rdSL T H cs as l0 = some (x, l) -> as.all notNil = true ->
  ∃ new : List Nat, l = l0 ++ new.map some /\ (∀ (q i : Nat), new[q]? = some i -> (kents T cs x)[q]? = H[i]?) /\ (kents T cs x).length = new.length /\ ∀ σ : Nat -> Nat, (∀ (q i : Nat), l[q]? = some (some i) -> σ q = i) -> kcells T σ cs x l0.length = as
 | [], _, as, l0, l, x, h, _ => by
  unfold rdSL at h
  split at h
  ·have h := congrArg Prod.snd (Option.some.inj h)
   exact ⟨[], by simpa using h.symm, by simp, rfl, fun _ _ => rfl⟩
  ·cases h
 | s :: r, hs, as, l0, l, x, h, hn => by
  rw [List.all_cons, Bool.and_eq_true] at hs
  unfold rdSL at h
  split at h <;> try (cases h; done)
  rename_i a as
  rw [List.all_cons, Bool.and_eq_true] at hn
  split at h <;> try (cases h; done)
  rename_i y l1 hy
  obtain ⟨z, hz, rfl⟩ := pairO_some h
  have one : ∀ {i : Nat} {e : Ent T.U}, H[i]? = some e -> l1 = l0 ++ [some i] -> ∃ new : List Nat, l = l0 ++ new.map some /\ (∀ (q j : Nat), new[q]? = some j -> (e :: kents T r z)[q]? = H[j]?) /\ (e :: kents T r z).length = new.length /\ ∀ σ : Nat -> Nat, (∀ (q i : Nat), l[q]? = some (some i) -> σ q = i) -> σ l0.length = i /\ kcells T σ r z (l0.length + 1) = as := by
   intro i e hi hl
   subst hl
   obtain ⟨new, h1, h2, h3, h4⟩ := rdK r hs.2 as _ _ z hz hn.2
   refine ⟨i :: new, by rw [h1]; simp, fun q j hq => ?_, by simp [h3], fun σ hσ => ⟨?_, ?_⟩⟩
   ·cases q with
    | zero => simp only [List.getElem?_cons_zero, Option.some.injEq] at hq; subst hq; simpa using hi.symm
    | succ q => simpa using h2 q j (by simpa using hq)
   ·exact hσ _ _ (by rw [h1]; simp)
   ·have := h4 σ hσ
    simpa using this
  by_cases hsim : s.simple = true
  ·obtain ⟨rfl, h1⟩ := rdS_eq s hsim a _ _ y hy hn.1
   obtain ⟨new, g1, g2, g3, g4⟩ := rdK r hs.2 as _ _ z hz hn.2
   have e1 : kents T (s :: r) (y, z) = kents T r z := by cases s <;> first | rfl | cases hsim
   have e2 : ∀ σ p, kcells T σ (s :: r) (y, z) p = mkA T σ s y 0 :: kcells T σ r z p := by intro σ p; cases s <;> first | rfl | cases hsim
   refine ⟨new, g1, by rw [e1]; exact g2, by rw [e1]; exact g3, fun σ hσ => ?_⟩
   rw [e2, h1 σ 0 fun p i hp => hσ p i ?_, g4 σ hσ]
   rw [g1, List.getElem?_append_left (by have := (List.getElem?_eq_some_iff.1 hp).1; exact this)]; exact hp
  ·cases s with
   | row e t =>
    unfold rdS at hy
    split at hy <;> try (cases hy; done)
    rename_i i ha
    split at hy <;> try (cases hy; done)
    rename_i xs hx
    simp only [Option.some.injEq, Prod.mk.injEq] at hy
    obtain ⟨rfl, rfl⟩ := hy
    have := ownI_eq ha; subst this
    obtain ⟨new, g1, g2, g3, g4⟩ := one (rowAt_spec hx) rfl
    exact ⟨new, g1, g2, g3, fun σ hσ => by
     show AV.own (σ l0.length) :: kcells T σ r z (l0.length + 1) = _
     rw [(g4 σ hσ).1, (g4 σ hσ).2]⟩
   | dr e d fe =>
    unfold rdS at hy
    split at hy <;> try (cases hy; done)
    rename_i i ha
    split at hy <;> try (cases hy; done)
    rename_i xs hx
    simp only [Option.some.injEq, Prod.mk.injEq] at hy
    obtain ⟨rfl, rfl⟩ := hy
    have := ownI_eq ha; subst this
    obtain ⟨new, g1, g2, g3, g4⟩ := one (drAt_spec hx) rfl
    exact ⟨new, g1, g2, g3, fun σ hσ => by
     show AV.own (σ l0.length) :: kcells T σ r z (l0.length + 1) = _
     rw [(g4 σ hσ).1, (g4 σ hσ).2]⟩
   | _ => exact absurd hs.1 hsim
theorem rdK_head {H : List (Ent T.U)} {o : Nat} {e : TypeId} {cs ps : List Sh} (hcs : cs.all Sh.kshape = true) (hps : ps.all Sh.simple = true) {as : List (AV T.U)} (hh : headOk H as = true) {x : denL T (.ptr o e cs :: ps)} {l : Src} (hx : rdSL T H (.ptr o e cs :: ps) as [] = some (x, l)) (n : Nat) :
  ∃ (i : Nat) (new : List Nat), idsO l = i :: new /\ ∀ es, es = Ent.blk e (kcells T (σJ (idsO l) n) cs x.1 1) :: kents T cs x.1 -> es.length = (idsO l).length /\ ∀ (q j : Nat), (idsO l)[q]? = some j -> es[q]? = H[j]? := by
 unfold rdSL at hx
 split at hx <;> try (cases hx; done)
 rename_i a as'
 split at hx <;> try (cases hx; done)
 rename_i z l1 hz
 obtain ⟨z2, hz2, rfl⟩ := pairO_some hx
 unfold rdS at hz
 split at hz <;> try (cases hz; done)
 rename_i i o' ha
 have := ptrI_eq ha; subst this
 split at hz <;> try (cases hz; done)
 rename_i cs' hc
 split at hz <;> try (cases hz; done)
 have hi := blkAt_spec hc
 unfold headOk at hh
 simp only [hi] at hh
 obtain ⟨new, g1, g2, g3, g4⟩ := rdK cs hcs cs' _ _ z hz hh
 obtain ⟨n2, k1, k2, _⟩ := rdSL_spec ps as' l1 l z2 hz2
 rw [simple_cntL hps] at k2
 have hn2 : n2 = [] := List.eq_nil_of_length_eq_zero k2
 subst hn2
 have hl : l = some i :: new.map some := by rw [k1.eq, g1]; simp
 have hids : idsO l = i :: new := by rw [hl]; show i :: idsO (new.map some) = _; rw [idsO_map]
 refine ⟨i, new, hids, fun es hes => ?_⟩
 subst hes
 refine ⟨by rw [hids]; simp [g3], fun q j hq => ?_⟩
 rw [hids] at hq
 cases q with
 | zero =>
  simp only [List.getElem?_cons_zero, Option.some.injEq] at hq; subst hq
  rw [hi, List.getElem?_cons_zero]
  congr 2
  refine g4 _ fun p q hp => ?_
  rw [hids]
  have hp' : ((i :: new).map some)[p]? = some (some q) := by
   rw [g1] at hp; simpa using hp
  rw [List.getElem?_map] at hp'
  cases hq : (i :: new)[p]? with
  | none => rw [hq] at hp'; cases hp'
  | some q' => rw [hq] at hp'; simp only [Option.map_some, Option.some.injEq] at hp'; subst hp'; exact σJ_at hq
 | succ q => simpa using g2 q j (by simpa using hq)
theorem setIo_same : ∀ (ids : List Nat) (es H : List (Ent T.U)), (∀ (q j : Nat), ids[q]? = some j -> es[q]? = H[j]?) -> setIo T H ids es = H
 | [], es, H, _ => by cases es <;> rfl
 | i :: r, [], H, _ => rfl
 | i :: r, e :: es, H, h => by
  rw [setIo]
  have h0 := h 0 i rfl
  have hs : H.set i e = H := by
   obtain ⟨hlt, hg⟩ := List.getElem?_eq_some_iff.1 h0.symm
   rw [List.getElem?_cons_zero] at h0
   have : H[i] = e := by rw [List.getElem?_eq_getElem hlt] at h0; exact (Option.some.inj h0).symm
   rw [<- this, List.set_getElem_self]
  rw [hs]
  exact setIo_same r es H fun q j hq => by simpa using h (q + 1) j (by simpa using hq)
def keepOk (H : List (Ent T.U)) (as : List (AV T.U)) : List Sh -> Bool
 | .ptr _ _ cs :: ps => cs.all Sh.kshape && (ps.all Sh.simple && headOk H as)
 | _ => false
def Stays (ps : List Sh) (post : List PE) (x : denL T ps) (y : denP T post) : Prop := match ps, x with
 | .ptr _ e cs :: _, x => ∀ (σ : Nat -> Nat) (m : Nat), mkP T σ post y m = Ent.blk e (kcells T σ cs x.1 1) :: kents T cs x.1
 | _, _ => True
theorem stays_set {ps : List Sh} {post : List PE} {x : denL T ps} {y : denP T post} (hy : Stays ps post x y) {H : List (Ent T.U)} {as : List (AV T.U)} {l : Src} (hx : rdSL T H ps as [] = some (x, l)) (hk : keepOk H as ps = true) (n m : Nat) : setIo T H (idsO l) (mkP T (σJ (idsO l) n) post y m) = H := by
 unfold keepOk at hk
 split at hk
 ·rename_i o e cs ps
  simp only [Bool.and_eq_true] at hk
  obtain ⟨i, new, _, h2⟩ := rdK_head hk.1 hk.2.1 hk.2.2 hx n
  exact setIo_same _ _ _ (h2 _ (hy _ _)).2
 ·cases hk
def GSpec.toKeep (sp : GSpec T) (alt : CallSpec T) : CallSpec T where
 call := fun as H K Kp => match rdSL T H sp.ps as [] with
  | some (x, l) => match (nodupN (idsO l) && rowsOk T H (idsO l) sp.post) && keepOk H as sp.ps with
   | true => obind (sp.g x) fun y => K (packR T (mkAL T (σJ (idsO l) H.length) sp.rs y.2 (sp.post.length + cntP sp.post))) (H ++ (mkPN T (σJ (idsO l) H.length) sp.post y.1 sp.post.length ++ mkEL T (σJ (idsO l) H.length) sp.rs y.2 (sp.post.length + cntP sp.post)))
   | false => none
  | none => alt.call as H K Kp
 q := alt.q
 isq := alt.isq
 wr := fun as H => match rdSL T H sp.ps as [] with | some _ => [] | none => alt.wr as H
def PSpec.toKeep (sp : PSpec T) (alt : CallSpec T) : CallSpec T where
 call := fun as H K Kp => match rdSL T H sp.ps as [] with
  | some (x, l) => match (nodupN (idsO l) && rowsOk T H (idsO l) sp.post) && keepOk H as sp.ps with
   | true => obind (sp.g x) fun y => match y.2 with
    | .inl z => K (packR T (mkAL T (σJ (idsO l) H.length) sp.rs z (sp.post.length + cntP sp.post))) (H ++ (mkPN T (σJ (idsO l) H.length) sp.post y.1 sp.post.length ++ mkEL T (σJ (idsO l) H.length) sp.rs z (sp.post.length + cntP sp.post)))
    | .inr z => Kp (packR T (mkAL T (σJ (idsO l) H.length) [sp.pv] z (sp.post.length + cntP sp.post))) (H ++ (mkPN T (σJ (idsO l) H.length) sp.post y.1 sp.post.length ++ mkEL T (σJ (idsO l) H.length) [sp.pv] z (sp.post.length + cntP sp.post)))
   | false => none
  | none => alt.call as H K Kp
 q := alt.q
 isq := alt.isq
 wr := fun as H => match rdSL T H sp.ps as [] with | some _ => [] | none => alt.wr as H
theorem app_keeps (H N : List (Ent T.U)) : Keeps T [] H (H ++ N) := ⟨by simp, fun e he _ => List.getElem?_append_left he, fun e ty t ys he h => ⟨ys, by rwa [List.getElem?_append_left he] at h⟩⟩
theorem gKeep_ok {f : FuncId} {sp : GSpec T} {alt : CallSpec T} (h : GOk T P f sp) (hk : ∀ x y, sp.g x = some y -> Stays sp.ps sp.post x y.1) (ha : SoundCall T P f alt /\ SoundQ T P f alt /\ DetC alt) : SoundCall T P f (sp.toKeep alt) /\ SoundQ T P f (sp.toKeep alt) /\ DetC (sp.toKeep alt) := by
 refine ⟨fun as H K Kp r hr => soundCall_G h ha.1 as H K Kp r ?_, ha.2.1, fun as H K Kp r hr => ?_⟩
 ·simp only [GSpec.toKeep] at hr
  simp only [GSpec.toCall]
  split at hr
  ·rename_i x l hx
   rw [hx]
   simp only
   split at hr <;> try (cases hr; done)
   rename_i hb
   rw [Bool.and_eq_true] at hb
   obtain ⟨y, hy, hK⟩ := obind_some hr
   rw [hb.1]
   simp only [hy, obind]
   rw [stays_set (hk x y hy) hx hb.2]; exact hK
  ·rename_i hx; rw [hx]; exact hr
 ·simp only [GSpec.toKeep] at hr
  split at hr
  ·rename_i x l hx
   split at hr <;> try (cases hr; done)
   rename_i hb
   obtain ⟨y, hy, hK⟩ := obind_some hr
   have hw : (GSpec.toKeep sp alt).wr as H = [] := by simp only [GSpec.toKeep, hx]
   rw [hw]
   exact .inl ⟨_, _, hK, app_keeps _ _, fun K' Kp' => by simp only [GSpec.toKeep, hx, hb, hy, obind]⟩
  ·rename_i hx
   have hw : (GSpec.toKeep sp alt).wr as H = alt.wr as H := by simp only [GSpec.toKeep, hx]
   rcases ha.2.2 as H K Kp r hr with ⟨a, H1, h1, h2, h3⟩ | ⟨a, H1, h1, h2, h3⟩
   ·exact .inl ⟨a, H1, h1, by rw [hw]; exact h2, fun K' Kp' => by simp only [GSpec.toKeep, hx, h3]⟩
   ·exact .inr ⟨a, H1, h1, by rw [hw]; exact h2, fun K' Kp' => by simp only [GSpec.toKeep, hx, h3]⟩
theorem pKeep_ok {f : FuncId} {sp : PSpec T} {alt : CallSpec T} (h : POk T P f sp) (hk : ∀ x y, sp.g x = some y -> Stays sp.ps sp.post x y.1) (ha : SoundCall T P f alt /\ SoundQ T P f alt /\ DetC alt) : SoundCall T P f (sp.toKeep alt) /\ SoundQ T P f (sp.toKeep alt) /\ DetC (sp.toKeep alt) := by
 refine ⟨fun as H K Kp r hr => soundCall_P h ha.1 as H K Kp r ?_, ha.2.1, fun as H K Kp r hr => ?_⟩
 ·simp only [PSpec.toKeep] at hr
  simp only [PSpec.toCall]
  split at hr
  ·rename_i x l hx
   rw [hx]
   simp only
   split at hr <;> try (cases hr; done)
   rename_i hb
   rw [Bool.and_eq_true] at hb
   obtain ⟨y, hy, hK⟩ := obind_some hr
   rw [hb.1]
   simp only [hy, obind]
   rw [stays_set (hk x y hy) hx hb.2]; exact hK
  ·rename_i hx; rw [hx]; exact hr
 ·simp only [PSpec.toKeep] at hr
  split at hr
  ·rename_i x l hx
   split at hr <;> try (cases hr; done)
   rename_i hb
   obtain ⟨y, hy, hK⟩ := obind_some hr
   have hw : (PSpec.toKeep sp alt).wr as H = [] := by simp only [PSpec.toKeep, hx]
   rw [hw]
   cases hz : y.2 with
   | inl z =>
    rw [hz] at hK
    exact .inl ⟨_, _, hK, app_keeps _ _, fun K' Kp' => by simp only [PSpec.toKeep, hx, hb, hy, obind, hz]⟩
   | inr z =>
    rw [hz] at hK
    exact .inr ⟨_, _, hK, app_keeps _ _, fun K' Kp' => by simp only [PSpec.toKeep, hx, hb, hy, obind, hz]⟩
  ·rename_i hx
   have hw : (PSpec.toKeep sp alt).wr as H = alt.wr as H := by simp only [PSpec.toKeep, hx]
   rcases ha.2.2 as H K Kp r hr with ⟨a, H1, h1, h2, h3⟩ | ⟨a, H1, h1, h2, h3⟩
   ·exact .inl ⟨a, H1, h1, by rw [hw]; exact h2, fun K' Kp' => by simp only [PSpec.toKeep, hx, h3]⟩
   ·exact .inr ⟨a, H1, h1, by rw [hw]; exact h2, fun K' Kp' => by simp only [PSpec.toKeep, hx, h3]⟩
end
end Go.X
