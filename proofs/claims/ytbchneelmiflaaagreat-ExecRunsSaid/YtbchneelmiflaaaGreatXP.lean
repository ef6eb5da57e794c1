import Derived.Test.YtbchneelmiflaaaGreatX21
import Derived.Test.YtbchneelmiflaaaGreatX22
import Derived.OrdersIn
import Derived.TacticsIn
import Derived.RangeFuncRecord
namespace Go.X
open Go.RowKit Go.V
def Sh.simple : Sh -> Bool
 | .val _ => true | .arr _ _ => true | .at_ _ _ => true | .ap _ _ _ _ _ => true | .nilp => true | .rw _ => true | .own _ => true | _ => false
def notNil {U : Nat -> Type} : AV U -> Bool | .raw (.slice none 0 0) => false | _ => true
section
variable {T : Tab}
theorem rdS_eq {H : List (Ent T.U)} (s : Sh) (hs : s.simple = true) (a : AV T.U) (l l' : Src) (x : s.den T) (h : rdS T H s a l = some (x, l')) (hn : notNil a = true) :
  l' = l /\ ∀ (σ : Nat -> Nat) (k : Nat), (∀ p i, l[p]? = some (some i) -> σ p = i) -> mkA T σ s x k = a := by
 cases s <;> try (cases hs; done)
 ·rename_i t
  unfold rdS at h
  split at h <;> try (cases h; done)
  rename_i y hy
  simp only [Option.some.injEq, Prod.mk.injEq] at h
  obtain ⟨rfl, rfl⟩ := h
  refine ⟨rfl, fun σ k _ => ?_⟩
  have := ofAV_eq hy (by intro e; subst e; cases hn)
  exact this.symm
 ·rename_i i o
  unfold rdS at h
  split at h <;> try (cases h; done)
  rename_i j o' ha
  split at h <;> try (cases h; done)
  rename_i hb
  simp only [Bool.and_eq_true] at hb
  simp only [Option.some.injEq, Prod.mk.injEq] at h
  obtain ⟨_, rfl⟩ := h
  have := ptrI_eq ha; subst this
  refine ⟨rfl, fun σ k hσ => ?_⟩
  show AV.ptr (σ i) o = _
  rw [hσ _ _ (seenAt_spec hb.2), Nat.eq_of_beq_eq_true hb.1]
 ·rename_i i
  unfold rdS at h
  split at h <;> try (cases h; done)
  rename_i j ha
  split at h <;> try (cases h; done)
  rename_i hb
  simp only [Option.some.injEq, Prod.mk.injEq] at h
  obtain ⟨_, rfl⟩ := h
  have := ownI_eq ha; subst this
  refine ⟨rfl, fun σ k hσ => ?_⟩
  show AV.own (σ i) = _
  rw [hσ _ _ (seenAt_spec hb)]
 ·unfold rdS at h
  split at h <;> try (cases h; done)
  rename_i hb
  simp only [Option.some.injEq, Prod.mk.injEq] at h
  obtain ⟨_, rfl⟩ := h
  have := nilpI_eq hb; subst this
  exact ⟨rfl, fun σ k _ => rfl⟩
 ·rename_i t n
  unfold rdS at h
  split at h <;> try (cases h; done)
  rename_i xs ha
  simp only [Option.some.injEq, Prod.mk.injEq] at h
  obtain ⟨rfl, rfl⟩ := h
  have := arrSh_eq ha; subst this
  exact ⟨rfl, fun σ k _ => rfl⟩
 ·rename_i i o sz n c
  unfold rdS at h
  split at h <;> try (cases h; done)
  rename_i j o' sz' n' q c' ha
  split at h <;> try (cases h; done)
  rename_i hb
  simp only [Bool.and_eq_true] at hb
  simp only [Option.some.injEq, Prod.mk.injEq] at h
  obtain ⟨rfl, rfl⟩ := h
  have := aptrI_eq ha; subst this
  refine ⟨rfl, fun σ k hσ => ?_⟩
  show AV.aptr (σ i) o sz n x c = _
  rw [hσ _ _ (seenAt_spec hb.1), Nat.eq_of_beq_eq_true hb.2.1, Nat.eq_of_beq_eq_true hb.2.2.1, Nat.eq_of_beq_eq_true hb.2.2.2.1, Nat.eq_of_beq_eq_true hb.2.2.2.2]
 ·rename_i n
  unfold rdS at h
  split at h <;> try (cases h; done)
  rename_i hb
  simp only [Option.some.injEq, Prod.mk.injEq] at h
  obtain ⟨_, rfl⟩ := h
  have := rawI_eq hb; subst this
  exact ⟨rfl, fun σ k _ => rfl⟩
theorem rdSL_eq {H : List (Ent T.U)} : ∀ (ss : List Sh), ss.all Sh.simple = true -> ∀ (as : List (AV T.U)) (l l' : Src) (x : denL T ss), rdSL T H ss as l = some (x, l') -> as.all notNil = true ->
  l' = l /\ ∀ (σ : Nat -> Nat) (k : Nat), (∀ p i, l[p]? = some (some i) -> σ p = i) -> mkAL T σ ss x k = as
 | [], _, as, l, l', x, h, _ => by
  unfold rdSL at h
  split at h
  ·have h := congrArg Prod.snd (Option.some.inj h)
   exact ⟨h.symm, fun _ _ _ => rfl⟩
  ·cases h
 | s :: r, hs, as, l, l', x, h, hn => by
  rw [List.all_cons, Bool.and_eq_true] at hs
  unfold rdSL at h
  split at h <;> try (cases h; done)
  rename_i a as
  rw [List.all_cons, Bool.and_eq_true] at hn
  split at h <;> try (cases h; done)
  rename_i y l1 hy
  obtain ⟨z, hz, rfl⟩ := pairO_some h
  obtain ⟨rfl, h1⟩ := rdS_eq s hs.1 a _ _ y hy hn.1
  obtain ⟨rfl, h2⟩ := rdSL_eq r hs.2 as _ _ z hz hn.2
  refine ⟨rfl, fun σ k hσ => ?_⟩
  show mkA T σ s y k :: mkAL T σ r z (k + s.cnt) = a :: as
  rw [h1 σ k hσ, h2 σ _ hσ]
end
structure KSpec (T : Tab) where
 o : Nat
 e : TypeId
 cs : List Sh
 ps : List Sh
 post : List PE
 rs : List Sh
 g : denL T (.ptr o e cs :: ps) -> Option (denP T (.blk e cs :: post) × denL T rs)
def KSpec.toG {T : Tab} (sp : KSpec T) : GSpec T := ⟨.ptr sp.o sp.e sp.cs :: sp.ps, .blk sp.e sp.cs :: sp.post, sp.rs, sp.g⟩
def headOk {T : Tab} (H : List (Ent T.U)) : List (AV T.U) -> Bool
 | .ptr i _ :: _ => (match H[i]? with | some (.blk _ cs) => cs.all notNil | _ => false)
 | _ => false
def KSpec.toCall {T : Tab} (sp : KSpec T) (alt : CallSpec T) : CallSpec T where
 call := fun as H K Kp => match rdSL T H sp.toG.ps as [] with
  | some (x, l) => match nodupN (idsO l) && rowsOk T H (idsO l) sp.toG.post with
   | true => match sp.cs.all Sh.simple && headOk H as with
    | true => obind (sp.g x) fun y => K (packR T (mkAL T (σJ (idsO l) H.length) sp.rs y.2 (sp.toG.post.length + cntP sp.toG.post))) (setIo T H (idsO l).tail (mkP T (σJ (idsO l) H.length) sp.toG.post y.1 sp.toG.post.length).tail ++ (mkPN T (σJ (idsO l) H.length) sp.toG.post y.1 sp.toG.post.length ++ mkEL T (σJ (idsO l) H.length) sp.rs y.2 (sp.toG.post.length + cntP sp.toG.post)))
    | false => none
   | false => none
  | none => alt.call as H K Kp
 q := alt.q
 isq := alt.isq
 wr := fun as H => match rdSL T H sp.toG.ps as [] with | some (_, l) => (idsO l).tail | none => alt.wr as H
section
variable {T : Tab} {P : Program}
theorem σJ_at {ids : List Nat} {n j i : Nat} (h : ids[j]? = some i) : σJ ids n j = i := by
 have hlt := (List.getElem?_eq_some_iff.1 h).1
 have := σJ_lo (ids := ids) (n := n) hlt
 rw [h] at this; exact (Option.some.inj this).symm
theorem KSpec.first {sp : KSpec T} {as : List (AV T.U)} {H : List (Ent T.U)} {x : denL T sp.toG.ps} {l : Src} (hx : rdSL T H sp.toG.ps as [] = some (x, l)) (hb : (sp.cs.all Sh.simple && headOk H as) = true) {y : denP T sp.toG.post} (hy : y.1 = x.1) (m : Nat) :
  ∃ i r, idsO l = i :: r /\ H[i]? = some (mkP1 T (σJ (idsO l) H.length) (.blk sp.e sp.cs) y.1 m) := by
 rw [Bool.and_eq_true] at hb
 obtain ⟨hsim, hhd⟩ := hb
 obtain ⟨new, g1, g2, _⟩ := rdSL_spec sp.toG.ps as [] l x hx
 have hl : l = new.map some := by rw [g1.eq]; rfl
 have hids : idsO l = new := by rw [hl, idsO_map]
 have hx0 := hx
 unfold KSpec.toG at hx
 simp only at hx
 unfold rdSL at hx
 cases as with
 | nil => cases hx
 | cons a as' =>
 simp only at hx
 split at hx <;> try (cases hx; done)
 rename_i z l1 hz
 obtain ⟨z2, hz2, rfl⟩ := pairO_some hx
 unfold rdS at hz
 split at hz <;> try (cases hz; done)
 rename_i i o' ha
 have := ptrI_eq ha; subst this
 split at hz <;> try (cases hz; done)
 rename_i cs' hc
 split at hz <;> try (cases hz; done)
 have hi := blkAt_spec hc
 unfold headOk at hhd
 simp only [hi] at hhd
 obtain ⟨hl1, hmk⟩ := rdSL_eq sp.cs hsim cs' _ _ z hz hhd
 obtain ⟨n2, k1, _, _⟩ := rdSL_spec sp.ps as' l1 l z2 hz2
 have hl2 : l = some i :: n2.map some := by rw [k1.eq, hl1]; rfl
 have hids2 : idsO l = i :: n2 := by rw [hl2]; show i :: idsO (n2.map some) = _; rw [idsO_map]
 refine ⟨i, n2, hids2, ?_⟩
 rw [hi]
 show some (Ent.blk sp.e cs') = some (Ent.blk sp.e (mkAL T (σJ (idsO l) H.length) sp.cs y.1 m))
 rw [hy, hmk _ _ fun p q hp => ?_]
 rw [hids2]
 match p, hp with
 | 0, hp => simp at hp; subst hp; exact σJ_at (by simp)
 | p + 1, hp => simp at hp
theorem KSpec.call_eq {sp : KSpec T} {alt : CallSpec T} (hk : ∀ x y, sp.g x = some y -> y.1.1 = x.1) {R : Type} {as : List (AV T.U)} {H : List (Ent T.U)} {K Kp : AV T.U -> List (Ent T.U) -> Option R} {r : R} (h : (sp.toCall alt).call as H K Kp = some r) :
  (sp.toG.toCall alt).call as H K Kp = some r := by
 simp only [KSpec.toCall] at h
 simp only [GSpec.toCall]
 split at h
 ·rename_i x l hx
  rw [hx]
  simp only
  split at h <;> try (cases h; done)
  rename_i hb
  split at h <;> try (cases h; done)
  rename_i hb2
  obtain ⟨y, hy, hK⟩ := obind_some h
  simp only [hb]
  have hy' : sp.toG.g x = some y := hy
  rw [hy']
  simp only [obind]
  obtain ⟨i, r', h1, h2⟩ := KSpec.first (y := y.1) hx hb2 (hk x y hy) sp.toG.post.length
  rw [<- hK]
  congr 2
  generalize hσ : σJ (idsO l) H.length = σ at h2 ⊢
  rw [h1]
  show setIo T H (i :: r') (mkP1 T σ (.blk sp.e sp.cs) y.1.1 _ :: mkP T σ sp.post y.1.2 _) = setIo T H r' (mkP T σ sp.post y.1.2 _)
  rw [setIo]
  congr 1
  obtain ⟨hlt, hg⟩ := List.getElem?_eq_some_iff.1 h2
  rw [<- hg, List.set_getElem_self]
 ·rename_i hx
  rw [hx]; exact h
theorem soundCall_K {f : FuncId} {sp : KSpec T} {alt : CallSpec T} (hok : GOk T P f sp.toG) (hk : ∀ x y, sp.g x = some y -> y.1.1 = x.1) (ha : SoundCall T P f alt) : SoundCall T P f (sp.toCall alt) :=
 fun as H K Kp r hr => soundCall_G hok ha as H K Kp r (KSpec.call_eq hk hr)
theorem detC_K {sp : KSpec T} {alt : CallSpec T} (ha : DetC alt) : DetC (sp.toCall alt) := by
 intro R as H K Kp r hr
 simp only [KSpec.toCall] at hr
 split at hr
 ·rename_i x l hx
  split at hr <;> try (cases hr; done)
  rename_i hb
  split at hr <;> try (cases hr; done)
  rename_i hb2
  obtain ⟨y, hy, hK⟩ := obind_some hr
  have hb' := hb
  simp only [Bool.and_eq_true] at hb'
  obtain ⟨hlen, hrow⟩ := rowsOk_spec hb'.2
  refine .inl ⟨_, _, hK, ?_, fun K' Kp' => by simp only [KSpec.toCall, hx, hb, hb2, hy, obind]⟩
  have hw : (KSpec.toCall sp alt).wr as H = (idsO l).tail := by simp only [KSpec.toCall, hx]
  rw [hw]
  have hl : (mkP T (σJ (idsO l) H.length) sp.toG.post y.1 sp.toG.post.length).tail.length = (idsO l).tail.length := by
   have h0 := mkP_len (T := T) (σJ (idsO l) H.length) sp.toG.post y.1 sp.toG.post.length
   rw [List.length_tail, List.length_tail, hlen]
   exact congrArg (· - 1) h0
  refine ⟨by rw [List.length_append, setIo_len]; omega, fun e he hn => ?_, fun e ty t ys he h => ?_⟩
  ·rw [List.getElem?_append_left (by rw [setIo_len]; exact he)]
   obtain ⟨f, hf⟩ : ∃ f, (setIo T H (idsO l).tail (mkP T (σJ (idsO l) H.length) sp.toG.post y.1 sp.toG.post.length).tail)[e]? = some f := ⟨_, List.getElem?_eq_getElem (by rw [setIo_len]; exact he)⟩
   rcases setIo_get _ _ H hl hf with ⟨k, g1, _⟩ | ⟨_, g2⟩
   ·exact absurd (List.mem_of_getElem? g1) hn
   ·rw [hf, g2]
  ·rw [List.getElem?_append_left (by rw [setIo_len]; exact he)] at h
   rcases setIo_get _ _ H hl h with ⟨k, g1, g2⟩ | ⟨_, g2⟩
   ·rw [List.getElem?_tail] at g1 g2
    exact hrow (k + 1) e ty t g1 (mkP_row g2)
   ·exact ⟨ys, g2⟩
 ·rename_i hx
  have hw : (KSpec.toCall sp alt).wr as H = alt.wr as H := by simp only [KSpec.toCall, hx]
  rcases ha as H K Kp r hr with ⟨a, H1, h1, h2, h3⟩ | ⟨a, H1, h1, h2, h3⟩
  ·exact .inl ⟨a, H1, h1, by rw [hw]; exact h2, fun K' Kp' => by simp only [KSpec.toCall, hx, h3]⟩
  ·exact .inr ⟨a, H1, h1, by rw [hw]; exact h2, fun K' Kp' => by simp only [KSpec.toCall, hx, h3]⟩
theorem kCall_ok {f : FuncId} {sp : KSpec T} {alt : CallSpec T} (h : GOk T P f sp.toG) (hk : ∀ x y, sp.g x = some y -> y.1.1 = x.1) (ha : SoundCall T P f alt /\ SoundQ T P f alt /\ DetC alt) : SoundCall T P f (sp.toCall alt) /\ SoundQ T P f (sp.toCall alt) /\ DetC (sp.toCall alt) := ⟨soundCall_K h hk ha.1, ha.2.1, detC_K ha.2.2⟩
def CallSpec.forkH {T : Tab} (c : List (AV T.U) -> List (Ent T.U) -> Bool) (a b : CallSpec T) : CallSpec T where
 call := fun as H K Kp => forkB (c as H) (a.call as H K Kp) (b.call as H K Kp)
 q := fun as H K => forkB (c as H) (a.q as H K) (b.q as H K)
 isq := a.isq
 wr := fun as H => a.wr as H ++ b.wr as H
def CallSpec.forkS {T : Tab} (ps : List Sh) (c : denL T ps -> Bool) (a b : CallSpec T) : CallSpec T := CallSpec.forkH (fun as H => match rdSL T H ps as [] with | some (x, _) => c x | none => false) a b
theorem forkHCall_ok {f : FuncId} (c : List (AV T.U) -> List (Ent T.U) -> Bool) {a b : CallSpec T} (ha : SoundCall T P f a /\ SoundQ T P f a /\ DetC a) (hb : SoundCall T P f b /\ SoundQ T P f b /\ DetC b) : SoundCall T P f (CallSpec.forkH c a b) /\ SoundQ T P f (CallSpec.forkH c a b) /\ DetC (CallSpec.forkH c a b) := by
 refine ⟨fun as H K Kp r h => ?_, fun as H K r h => ?_, fun as H K Kp r h => ?_⟩
 ·rcases forkB_cases h with ⟨_, h⟩ | ⟨_, h⟩
  ·exact ha.1 as H K Kp r h
  ·exact hb.1 as H K Kp r h
 ·rcases forkB_cases h with ⟨_, h⟩ | ⟨_, h⟩
  ·exact ha.2.1 as H K r h
  ·exact hb.2.1 as H K r h
 ·have ec : ∀ c0, c as H = c0 -> ∀ {R' : Type} (K' Kp' : AV T.U -> List (Ent T.U) -> Option R'), (CallSpec.forkH c a b).call as H K' Kp' = forkB c0 (a.call as H K' Kp') (b.call as H K' Kp') := fun c0 hc _ K' Kp' => by
   subst hc; rfl
  have ew : (CallSpec.forkH c a b).wr as H = a.wr as H ++ b.wr as H := rfl
  rw [ew]
  have kl : ∀ {H1 : List (Ent T.U)}, Keeps T (a.wr as H) H H1 -> Keeps T (a.wr as H ++ b.wr as H) H H1 := fun h => ⟨h.len, fun e he hn => h.same e he fun hm => hn (List.mem_append.2 (.inl hm)), h.row⟩
  have kr : ∀ {H1 : List (Ent T.U)}, Keeps T (b.wr as H) H H1 -> Keeps T (a.wr as H ++ b.wr as H) H H1 := fun h => ⟨h.len, fun e he hn => h.same e he fun hm => hn (List.mem_append.2 (.inr hm)), h.row⟩
  cases hc : c as H with
  | true =>
   rw [ec _ hc] at h
   have := ha.2.2 as H K Kp r h
   rcases this with ⟨x, H1, h1, h2, h3⟩ | ⟨x, H1, h1, h2, h3⟩
   ·exact .inl ⟨x, H1, h1, kl h2, fun K' Kp' => (ec _ hc K' Kp').trans (h3 K' Kp')⟩
   ·exact .inr ⟨x, H1, h1, kl h2, fun K' Kp' => (ec _ hc K' Kp').trans (h3 K' Kp')⟩
  | false =>
   rw [ec _ hc] at h
   have := hb.2.2 as H K Kp r h
   rcases this with ⟨x, H1, h1, h2, h3⟩ | ⟨x, H1, h1, h2, h3⟩
   ·exact .inl ⟨x, H1, h1, kr h2, fun K' Kp' => (ec _ hc K' Kp').trans (h3 K' Kp')⟩
   ·exact .inr ⟨x, H1, h1, kr h2, fun K' Kp' => (ec _ hc K' Kp').trans (h3 K' Kp')⟩
theorem forkSCall_ok {f : FuncId} (ps : List Sh) (c : denL T ps -> Bool) {a b : CallSpec T} (ha : SoundCall T P f a /\ SoundQ T P f a /\ DetC a) (hb : SoundCall T P f b /\ SoundQ T P f b /\ DetC b) : SoundCall T P f (CallSpec.forkS ps c a b) /\ SoundQ T P f (CallSpec.forkS ps c a b) /\ DetC (CallSpec.forkS ps c a b) := forkHCall_ok _ ha hb
end
end Go.X
namespace Go.X
open Go.RowKit Go.V
abbrev RD (ro : Option Nat) : Fence := { Fence.wide with round := ro }
section
variable {P : Program} {ops : Array Oper} {Q : Exit -> Act -> World -> Prop} {ro : Option Nat} {m : Nat}
theorem callsIn_rd {f : FuncId} {args : Array Value} {w : World} {R : Ending -> World -> Prop} : CallsIn (RD ro) m P f args w R ↔ Calls P f args w R := callsIn_wide (n := m)
theorem rowsIn_rd {row : String} {args : Array Value} {w : World} {R : Value -> World -> Prop} (h : Rows P row args w R) : RowsIn (RD ro) m P row args w R :=
 fun c cs _ => let ⟨v, w', r, s⟩ := h c cs; ⟨v, w', r, stepsIn_wide.2 s⟩
theorem dep_rd {p : Prop} : (RD ro).depth.isSome = true -> p := fun h => by cases h
theorem oper_in {o : Oper} {a : Act} {w : World} {K : Act -> World -> Prop} (hd : ∀ c, o.op ≠ .defer c) (h : o.wp P a w K Q) : o.wpIn (RD ro) m P a w K Q := by
 refine ⟨fun _ _ => trivial, ?_⟩
 rw [Oper.semAt_eq _ _ _ hd]
 unfold Oper.wp at h
 generalize (execOp a.eval o).run P w = r at h ⊢
 cases r with
 | ok x w' => cases x <;> simp only [Oper.upon, Oper.uponIn] at h ⊢ <;> first | exact h | exact ⟨dep_rd, callsIn_rd.2 h⟩ | exact ⟨dep_rd, rowsIn_rd h⟩ | exact h.elim
 | halt x w' => cases x <;> simp only [Oper.upon, Oper.uponIn] at h ⊢ <;> exact h
theorem notDef_spec {o : Oper} (h : notDef o.op = true) : ∀ c, o.op ≠ .defer c := fun c e => by rw [e] at h; cases h
theorem wpList_in (hQ : ¬ LetsOut Q) : ∀ (l : List Oper) (a : Act) (w : World), (l.all fun o => notDef o.op) = true -> wpList P ops Q l a w -> wpListIn (RD ro) m P ops Q l a w
 | [], _, _, _, h => h
 | o :: r, a, w, hd, h => by
  rw [List.all_cons, Bool.and_eq_true] at hd
  unfold wpList at h
  unfold wpListIn
  split
  ·rename_i hw
   rw [if_pos hw] at h
   rcases h with h | ⟨_, h⟩
   ·exact oper_in (notDef_spec hd.1) (Oper.wp_mono (fun a w h => wpList_in hQ r a w hd.2 h) h)
   ·exact absurd h hQ
  ·rename_i hw
   rw [if_neg hw] at h
   exact ⟨fun _ _ => trivial, wpList_in hQ r _ _ hd.2 h⟩
theorem wpAny_in {md : Region.Mode} (hQ : ¬ LetsOut Q) (hd : (ops.toList.all fun o => notDef o.op) = true) : ∀ (fuel : Nat) (listed : Array Bool) (a : Act) (w : World), wpAny P md ops Q fuel listed a w -> wpAnyIn (RD ro) m P md ops Q fuel listed a w
 | 0, _, _, _, h => h
 | fuel + 1, listed, a, w, h => by
  refine ⟨h.1, fun i hi => ?_⟩
  have h2 := h.2 i hi
  unfold wpOp at h2
  unfold wpOpIn
  split
  ·rename_i ho; rw [ho] at h2; exact wpAny_in hQ hd fuel _ _ _ h2
  ·rename_i o ho
   rw [ho] at h2
   simp only at h2
   split
   ·rename_i hw
    rw [if_pos hw] at h2
    rcases h2 with h2 | ⟨_, h2⟩
    ·refine oper_in (notDef_spec (List.all_eq_true.1 hd o (Array.mem_toList_iff.2 (Array.mem_of_getElem? ho)))) (Oper.wp_mono (fun a w h => wpAny_in hQ hd fuel _ a w h) h2)
    ·exact absurd h2 hQ
   ·rename_i hw
    rw [if_neg hw] at h2
    exact ⟨fun _ _ => trivial, wpAny_in hQ hd fuel _ _ _ h2⟩
def noDefC (ms : List (Nat × Nat)) : Code -> Bool
 | .region id ops draw => (ops.toList.all fun o => notDef o.op) && (!draw || (lookMs ms id).isSome)
 | .seq x y => noDefC ms x && noDefC ms y
 | .cond _ x y => noDefC ms x && noDefC ms y
 | .block _ c => noDefC ms c
 | .skip => true
 | .exit _ => true
 | .ret => true
 | _ => false
end
section
variable {T : Tab} {P : Program} {C : Ctx T} {w0 : World} {S0 : Ow} {n : Nat} {ds : List Deferred} {R : Type} {r : R} {ro : Option Nat} {m : Nat}
theorem letsOut_then {X : Act -> World -> Prop} {Q : Exit -> Act -> World -> Prop} (h : ¬ LetsOut Q) : ¬ LetsOut (Exit.then X Q) := fun ⟨a, w, h'⟩ => h ⟨a, w, h'⟩
theorem letsOut_block {id : Nat} {Q : Exit -> Act -> World -> Prop} (h : ¬ LetsOut Q) : ¬ LetsOut (Exit.inBlock id Q) := fun ⟨a, w, h'⟩ => h ⟨a, w, h'⟩
theorem evC_soundIn (hE : EnvOk T P C.E) (hm : P.follows .mixedOrders = true) : ∀ (c : Code) (q : Pos) (K : Ks T R) (st : St T) (Q : Exit -> Act -> World -> Prop) (F' : PF) (w : World), noDefC C.ms c = true -> ¬ LetsOut Q -> evC P C n [] (fun _ _ => none) c q K st = some r -> KsOk Q n ds w0 S0 r K -> Stands T w0 S0 st F' w ->
  ∀ a, Fr n ds F' a -> c.wpIn (RD ro) m P Q a w
 | .skip, q, K, st, Q, F', w, hd, hQ, h, hK, hs => fun a ha => wpIn_skip (hK.normal st h F' w hs a ha)
 | .region id ops draw, q, K, st, Q, F', w, hd, hQ, h, hK, hs => by
  obtain ⟨S, φ, hs⟩ := hs
  unfold evC at h
  intro a ha
  cases draw with
  | false =>
   have hw : WR P ops Q 0 n ds F' w := reg_sound hE (fun st hst => hK.normal st hst) hK.panic h hs
   rw [noDefC, Bool.and_eq_true] at hd
   exact wpIn_region_list (wpList_in hQ _ _ _ hd.1 (by simpa using hw a ha))
  | true =>
   simp only at h
   split at h
   ·rw [noDefC, Bool.and_eq_true] at hd
    exact wpIn_region_any hm (wpAny_in hQ hd.1 _ _ _ _ (regD_any hE (fun st hst => hK.normal st hst) hK.panic h hs a ha))
   ·rename_i hn
    rw [noDefC, hn] at hd
    simp at hd
 | .seq x y, q, K, st, Q, F', w, hd, hQ, h, hK, hs => by
  unfold evC at h
  rw [noDefC, Bool.and_eq_true] at hd
  have := evC_soundIn hE hm x _ _ st _ F' w hd.1 (letsOut_then hQ) h (hK.behind (X := y.wpIn (RD ro) m P Q) fun st1 h1 F1 w1 hs1 a ha =>
   evC_soundIn hE hm y _ _ st1 Q F1 w1 hd.2 hQ h1 hK hs1 a ha) hs
  exact fun a ha => wpIn_seq (this a ha)
 | .cond c x y, q, K, st, Q, F', w, hd, hQ, h, hK, hs => by
  unfold evC at h
  rw [noDefC, Bool.and_eq_true] at hd
  split at h
  ·rename_i b hc
   obtain ⟨S, φ, hs'⟩ := hs
   obtain ⟨v, h1, h2⟩ := aev_rel hs'.fr hc
   have := cbool_rel h2; subst this
   intro a ha
   refine wpIn_cond_split (ha.eval h1) (fun hb => ?_) fun hb => ?_
   ·rcases forkB_cases h with ⟨_, h⟩ | ⟨hb', _⟩
    ·exact evC_soundIn hE hm x _ K st Q F' w hd.1 hQ h hK ⟨S, φ, hs'⟩ a ha
    ·exact absurd (hb.symm.trans hb') (by simp)
   ·rcases forkB_cases h with ⟨hb', _⟩ | ⟨_, h⟩
    ·exact absurd (hb.symm.trans hb') (by simp)
    ·exact evC_soundIn hE hm y _ K st Q F' w hd.2 hQ h hK ⟨S, φ, hs'⟩ a ha
  ·cases h
 | .block id c, q, K, st, Q, F', w, hd, hQ, h, hK, hs => by
  unfold evC at h
  rw [noDefC] at hd
  have := evC_soundIn hE hm c _ _ st _ F' w hd (letsOut_block hQ) h (hK.block id) hs
  exact fun a ha => wpIn_block (this a ha)
 | .exit id, q, K, st, Q, F', w, hd, hQ, h, hK, hs => fun a ha => wpIn_exit (hK.exit id st h F' w hs a ha)
 | .ret, q, K, st, Q, F', w, hd, hQ, h, hK, hs => fun a ha => wpIn_ret (hK.ret st h F' w hs a ha)
 | .loop c, q, K, st, Q, F', w, hd, hQ, h, hK, hs => by cases hd
 | .rangeFunc .., _, _, _, _, _, _, hd, _, h, _, _ => by cases hd
 | .scope _, _, _, _, _, _, _, hd, _, h, _, _ => by cases hd
 | .label _, _, _, _, _, _, _, hd, _, h, _, _ => by cases hd
 | .goto _, _, _, _, _, _, _, hd, _, h, _, _ => by cases hd
 | .refuse _, _, _, _, _, _, _, hd, _, h, _, _ => by cases hd
end
def odd : Obj -> Bool | .loop _ => true | .deferred _ => true | _ => false
structure Turn (l : Nat) (w w' : World) : Prop where
 os : w'.os = w.os
 tape : w'.tape = w.tape
 output : w'.output = w.output
 size : w'.heap.size = w.heap.size
 old : ∃ o, w.heap[l]? = some o /\ odd o = true
 block : ∀ k, k ≠ l -> w'.heap[k]? = w.heap[k]?
theorem Turn.putObj {w : World} {l : Nat} {o : Obj} (o' : Obj) (h : w.heap[l]? = some o) (ho : odd o = true) : Turn l w (w.putObj l o') :=
 ⟨rfl, rfl, rfl, World.putObj_size, ⟨o, h, ho⟩, fun _ hk => World.putObj_heap_other hk⟩
section
variable {T : Tab} {w w' : World} {l : Nat} {S : List Nat} {φ : Nat -> RA}
theorem Turn.cell (h : Turn l w w') {a : Addr} {v : Value} (hc : w.cell? a = some v) : w'.cell? a = some v := by
 have hne : a.block ≠ l := by
  intro e
  obtain ⟨o, h1, h2⟩ := h.old
  unfold World.cell? at hc
  rw [e, h1] at hc
  cases o <;> first | (cases h2; done) | simp at hc
 exact (World.cell?_of_block (h.block _ hne)).trans hc
theorem Turn.chg (h : Turn l w w') : Chg [l] w w' := ⟨h.os, h.tape, h.output, Nat.le_of_eq h.size.symm, fun k _ hk => h.block k fun e => hk (by simp [e])⟩
theorem CR.turn (h : Turn l w w') {t : Ty} {x : den T.U t} {v : Value} (hr : CR T w S t x v) : CR T w' S t x v := by
 induction hr with
 | int k x => exact .int k x
 | bool b => exact .bool b
 | str s => exact .str s
 | list e xs ad cap u hcap hnil had hcell hrel ih =>
  refine .list e xs ad cap u hcap hnil ?_ (fun k j c hk => h.cell (hcell k j c hk)) ih
  intro hx
  obtain ⟨h1, h2, h3⟩ := had hx
  exact ⟨h1, by rw [h.size]; exact h2, h3⟩
theorem CellsR.turn (h : Turn l w w') {cs : List (Cell T.U)} {vs : List Value} (hr : CellsR T w S cs vs) : CellsR T w' S cs vs := ⟨hr.1, fun j c v h1 h2 => CR.turn h (hr.2 j c v h1 h2)⟩
mutual
theorem VR.turn (h : Turn l w w') : ∀ {a : AV T.U} {v : Value}, VR T w S φ a v -> VR T w' S φ a v
 | .cell c, v, hv => CR.turn h hv
 | .ptr i o, v, hv => hv
 | .eptr i sz k c, v, hv => hv
 | .lptr e xs k o, v, hv => by obtain ⟨ad, cap, h1, h2, h3⟩ := hv; exact ⟨ad, cap, CR.turn h h1, h2, h3⟩
 | .own i, v, hv => hv
 | .sl i sz o n, v, hv => hv
 | .agg cs, v, hv => by obtain ⟨vs, h1, h2⟩ := hv; exact ⟨vs, h1, VRL.turn h h2⟩
 | .tup cs, v, hv => by obtain ⟨vs, h1, h2⟩ := hv; exact ⟨vs, h1, VRL.turn h h2⟩
 | .fn f a b, v, hv => by obtain ⟨va, vb, h1, h2, h3⟩ := hv; exact ⟨va, vb, h1, VRL.turn h h2, VRL.turn h h3⟩
 | .ifc t a, v, hv => by obtain ⟨u, h1, h2⟩ := hv; exact ⟨u, h1, VR.turn h h2⟩
 | .raw u, v, hv => hv
 | .arr t n xs, v, hv => by obtain ⟨vs, h1, h2, h3⟩ := hv; exact ⟨vs, h1, h2, CellsR.turn h h3⟩
 | .aptr i o sz n k c, v, hv => hv
 | .asl i o sz n lo m, v, hv => hv
 | .mp i, v, hv => hv
theorem VRL.turn (h : Turn l w w') : ∀ {as : List (AV T.U)} {vs : List Value}, VRL T w S φ as vs -> VRL T w' S φ as vs
 | [], [], _ => trivial
 | [], _ :: _, hv => hv.elim
 | _ :: _, [], hv => hv.elim
 | _ :: _, _ :: _, hv => ⟨VR.turn h hv.1, VRL.turn h hv.2⟩
end
theorem BR.turn' (h : Turn l w w') {cs : List (AV T.U)} {vs : List Value} (hb : BR T w S φ cs vs) : BR T w' S φ cs vs := ⟨VRL.turn h hb.1, hb.2⟩
theorem MR.turn (h : Turn l w w') {k : IntKind} : ∀ {es : List (Int × AV T.U)} {ls : List MapEntry}, MR T w S φ k es ls -> MR T w' S φ k es ls
 | [], [], _ => trivial
 | [], _ :: _, hm => hm.elim
 | _ :: _, [], hm => hm.elim
 | (_, _) :: _, _ :: _, hm => ⟨hm.1, VR.turn h hm.2.1, MR.turn h hm.2.2⟩
theorem EntR.turn (h : Turn l w w') (hl : l ∉ S) {i : Nat} {e : Ent T.U} (he : EntR T w S φ i e) : EntR T w' S φ i e := by
 cases e with
 | blk e cs =>
  obtain ⟨g, c, h1, h2, h3, h4⟩ := he
  exact ⟨g, c, h1, h2.chg h.chg (by simp; intro e; subst e; exact hl h3), h3, BR.turn' h h4⟩
 | row e t xs =>
  obtain ⟨B, vals, h1, hn, h2, h3, h4⟩ := he
  refine ⟨B, vals, ?_, hn, by rw [h.size]; exact h2, CellsR.turn h h3, h4⟩
  cases hφ : (φ i).ad with
  | none => rw [hφ] at h1; exact h1.chg h.chg (.inr rfl)
  | some a => rw [hφ] at h1; exact h1.chg h.chg (.inl (by simp; intro e; exact hl (e ▸ h4 a hφ)))
 | map k es =>
  obtain ⟨g, ls, c, h1, h2, h3, h4⟩ := he
  exact ⟨g, ls, c, h1, h2.chg h.chg (by simp; intro e; subst e; exact hl h3), h3, MR.turn h h4⟩
 | gone => trivial
variable {w0 : World} {S0 : Ow} {F : AF T} {H : List (Ent T.U)} {F' : PF}
theorem Sim.turn (hs : Sim T w0 S0 ⟨F, H⟩ F' w S φ) (h : Turn l w w') (hl : l ∉ S) (h0 : w0.heap.size <= l) : Sim T w0 S0 ⟨F, H⟩ F' w' S φ := by
 refine ⟨fun i a ha => ?_, hs.ids, hs.chg.step h.chg (by simpa using .inr h0), fun b hb => ⟨(hs.own b hb).1, by rw [h.size]; exact (hs.own b hb).2⟩, hs.ex, hs.lives, hs.pins, fun i e he => EntR.turn h hl (hs.ents i e he), hs.eids, hs.apart⟩
 obtain ⟨v, h1, h2⟩ := hs.fr i a ha
 exact ⟨v, h1, VR.turn h h2⟩
def agn (w0 : World) (S0 : Ow) (S : List Nat) (φ : Nat -> RA) (k : Nat) : Ow := ⟨S.filter fun b => memN b S0.chg || Nat.ble w0.heap.size b, S, (List.range k).map φ⟩
theorem agn_chg {k b : Nat} : b ∈ (agn w0 S0 S φ k).chg ↔ b ∈ S /\ (b ∈ S0.chg \/ w0.heap.size <= b) := by
 show b ∈ S.filter _ ↔ _
 rw [List.mem_filter, Bool.or_eq_true, memN_iff, Nat.ble_eq]
theorem agn_pin {k j : Nat} {x : RA} (h : (agn w0 S0 S φ k).pin[j]? = some x) : φ j = x /\ j < k := by
 have h : ((List.range k).map φ)[j]? = some x := h
 rw [List.getElem?_map] at h
 cases hj : (List.range k)[j]? with
 | none => rw [hj] at h; cases h
 | some i =>
  rw [hj] at h
  obtain ⟨h1, h2⟩ := List.getElem?_eq_some_iff.1 hj
  simp at h1 h2 h; subst h2; exact ⟨h, h1⟩
theorem Sim.anew (hs : Sim T w0 S0 ⟨F, H⟩ F' w S φ) : Sim T w (agn w0 S0 S φ H.length) ⟨F, H⟩ F' w S φ := by
 refine ⟨hs.fr, hs.ids, Chg.refl _ _, fun b hb => ⟨.inl hb, (hs.own b hb).2⟩, fun b hb _ _ => hb, fun i e he hl a ha => .inl (agn_chg.2 ⟨liveIn hs he hl ha, hs.lives i e he hl a ha⟩), fun k r hk => agn_pin hk, hs.ents, hs.eids, hs.apart⟩
def plainF (F : AF T) : Prop := ∀ i a, F.get T i = some a -> notEp a = true
theorem Sim.after (hs : Sim T w0 S0 ⟨F, H⟩ F' w S φ) (hp : plainF F) {F2 : AF T} {H2 : List (Ent T.U)} {F2' : PF} {w2 : World} {S2 : List Nat} {φ2 : Nat -> RA} (h2 : Sim T w (agn w0 S0 S φ H.length) ⟨F2, H2⟩ F2' w2 S2 φ2) :
  Sim T w0 S0 ⟨F2, H2⟩ F2' w2 S2 φ2 /\ Sim T w0 S0 ⟨F, H2⟩ F' w2 S2 φ2 /\ Chg (agn w0 S0 S φ H.length).chg w w2 /\ (∀ b ∈ S2, b ∈ S \/ w.heap.size <= b) /\ (∀ k, k < H.length -> φ2 k = φ k) /\ H.length <= H2.length := by
 have hpin : ∀ k, k < H.length -> φ2 k = φ k /\ k < H2.length := fun k hk => h2.pins k (φ k) (by
  show ((List.range H.length).map φ)[k]? = some (φ k)
  rw [List.getElem?_map, List.getElem?_range hk]; rfl)
 have hlen : H.length <= H2.length := by
  rcases Nat.eq_zero_or_pos H.length with h0 | h0
  ·omega
  ·have := (hpin (H.length - 1) (by omega)).2; omega
 have hS : ∀ b ∈ S2, b ∈ S \/ w.heap.size <= b := fun b hb => (h2.own b hb).1
 have hc0 : ∀ b ∈ (agn w0 S0 S φ H.length).chg, b ∈ S0.chg \/ w0.heap.size <= b := fun b hb => (agn_chg.1 hb).2
 have hsz := hs.chg.size
 have one : Sim T w0 S0 ⟨F2, H2⟩ F2' w2 S2 φ2 := by
  refine ⟨h2.fr, h2.ids, hs.chg.step h2.chg hc0, fun b hb => ⟨?_, (h2.own b hb).2⟩, fun b hb hn hlt => ?_, fun i e he hl a ha => ?_, fun k r hk => ?_, h2.ents, h2.eids, h2.apart⟩
  ·rcases hS b hb with h | h
   ·exact (hs.own b h).1
   ·exact .inr (by omega)
  ·have hm := hs.ex b hb hn hlt
   exact h2.ex b hm (fun hc => by rcases hc0 b hc with h | h; exact hn h; omega) (hs.own b hm).2
  ·rcases h2.lives i e he hl a ha with h | h
   ·exact hc0 _ h
   ·exact .inr (by omega)
  ·obtain ⟨h1, h3⟩ := hs.pins k r hk
   obtain ⟨h4, h5⟩ := hpin k h3
   exact ⟨h4.trans h1, h5⟩
 refine ⟨one, ?_, h2.chg, hS, fun k hk => (hpin k hk).1, hlen⟩
 refine ⟨fun i a ha => ?_, fun i a ha => ?_, one.chg, one.own, one.ex, one.lives, one.pins, one.ents, one.eids, one.apart⟩
 ·obtain ⟨v, h1, h3⟩ := hs.fr i a ha
  exact ⟨v, h1, (h3.chg T h2.chg (fun b hb => (agn_chg.1 hb).1) hS).phi fun j hj => (hpin j ((hs.ids i a ha).1 j hj)).1⟩
 ·exact okA_notEp (hp i a ha) fun j hj => Nat.lt_of_lt_of_le ((hs.ids i a ha).1 j hj) hlen
end
end Go.X
namespace Go.X
open Go.RowKit Go.V
def YieldW (P : Program) (l : Nat) (args : Array Value) (W : World) (R : Ending -> World -> Prop) : Prop :=
 ∃ fn tmps assign body, (Instr.yield l args).run P W = .ok (.round l fn tmps assign body) W /\ RoundIn Fence.wide 0 P l fn tmps assign body W R
structure ItS (T : Tab) where
 cnt : List (AV T.U) -> List (Ent T.U) -> Option Nat
 item : List (AV T.U) -> List (Ent T.U) -> Nat -> Option (List (AV T.U))
def ItOk (T : Tab) (P : Program) (g : FuncId) (it : ItS T) : Prop :=
 ∀ (caps : List (AV T.U)) (H : List (Ent T.U)) (N : Nat), it.cnt caps H = some N ->
  ∀ (w0 : World) (S0 : Ow) (F : AF T) (F' : PF) (w : World) (S : List Nat) (φ : Nat -> RA) (vb : List Value), Sim T w0 S0 ⟨F, H⟩ F' w S φ -> VRL T w S φ caps vb ->
  ∃ Rd : Nat -> World -> List Value -> Prop,
   (∀ (k : Nat) (H1 : List (Ent T.U)) (v : List (AV T.U)) (w0 : World) (S0 : Ow) (F : AF T) (F' : PF) (w1 : World) (S1 : List Nat) (φ1 : Nat -> RA), it.item caps H1 k = some v -> Sim T w0 S0 ⟨F, H1⟩ F' w1 S1 φ1 -> VRL T w1 S1 φ1 caps vb ->
    ∃ us, Rd k w1 us /\ VRL T w1 S1 φ1 v us /\ ∀ a ∈ v, okA H1 a) /\
   ∀ (l : Nat) (J : Nat -> World -> Prop), (∀ k W, k < N -> J k W -> ∃ us, Rd k W us /\ YieldW P l us.toArray W fun e W' => e = .returned (.bool true) /\ J (k + 1) W') -> J 0 w ->
    Calls P g (#[.func (.yield l) #[] #[]] ++ vb.toArray) w fun e W' => (∃ v, e = .returned v) /\ J N W'
section
variable {T : Tab} {R : Type}
def putA : List Nat -> List (AV T.U) -> AF T -> AF T
 | p :: ps, a :: as, F => putA ps as ((p, a) :: F)
 | _, _, F => F
def putV : List Nat -> List Value -> PF -> PF
 | p :: ps, v :: vs, F => putV ps vs ((p, v) :: F)
 | _, _, F => F
variable (P : Program) (C : Ctx T) (n : Nat)
def round1 (ps : List Nat) (as bd : Code) (F : AF T) (v : List (AV T.U)) (H : List (Ent T.U)) (K : List (Ent T.U) -> Option R) : Option R :=
 match Nat.beq v.length ps.length with
 | true => evC P C n [] (fun _ _ => none) as [] ⟨fun st => evC P C n [] (fun _ _ => none) bd [] ⟨fun st2 => K st2.H, fun _ _ => none, fun _ => none, fun _ _ => none⟩ st, fun _ _ => none, fun _ => none, fun _ _ => none⟩ ⟨putA ps v F, H⟩
 | false => none
noncomputable def rounds (it : ItS T) (caps : List (AV T.U)) (ps : List Nat) (as bd : Code) (F : AF T) (Kend : List (Ent T.U) -> Option R) (m : Nat) : Nat -> List (Ent T.U) -> Option R :=
 Nat.rec (fun _ H => Kend H) (fun _ ih k H => match it.item caps H k with | some v => round1 P C n ps as bd F v H fun H1 => ih (k + 1) H1 | none => none) m
end
section
variable {T : Tab} {P : Program} {C : Ctx T} {w0 : World} {S0 : Ow} {n : Nat} {ds : List Deferred} {R : Type} {r : R} {w : World} {S : List Nat} {φ : Nat -> RA} {F : AF T} {H : List (Ent T.U)} {F' : PF}
theorem putV_fr : ∀ {ps : List Nat} {us : List Value} {F' : PF} {a : Act}, (ps.all fun p => Nat.blt p n) = true -> Fr n ds F' a ->
  Fr n ds (putV ps us F') { a with tmps := (ps.zip us).foldl (fun t (p : Nat × Value) => t.setIfInBounds p.1 p.2) a.tmps }
 | [], _, F', a, _, h => h
 | _ :: _, [], F', a, _, h => h
 | p :: ps, u :: us, F', a, hp, h => by
  rw [List.all_cons, Bool.and_eq_true] at hp
  have h1 := h.upd (dst := some p) (by simpa [okDst] using hp.1) u
  exact putV_fr (ps := ps) (us := us) hp.2 h1
theorem putA_sim : ∀ {ps : List Nat} {v : List (AV T.U)} {us : List Value} {F : AF T} {F' : PF}, Sim T w0 S0 ⟨F, H⟩ F' w S φ -> VRL T w S φ v us -> (∀ a ∈ v, okA H a) -> Sim T w0 S0 ⟨putA ps v F, H⟩ (putV ps us F') w S φ
 | [], v, us, F, F', h, hv, _ => by cases v <;> cases us <;> exact h
 | _ :: _, [], [], F, F', h, _, _ => h
 | _ :: _, [], _ :: _, _, _, _, hv, _ => hv.elim
 | _ :: _, _ :: _, [], _, _, _, hv, _ => hv.elim
 | p :: ps, a :: v, u :: us, F, F', h, hv, ho => putA_sim (ps := ps) (h.slot (dst := some p) hv.1 (ho a (List.mem_cons_self ..))) hv.2 fun b hb => ho b (List.mem_cons_of_mem _ hb)
theorem rangeF_sound (hE : EnvOk T P C.E) (hm : P.follows .mixedOrders = true) {Q : Exit -> Act -> World -> Prop} {f : Tmp} {ps : Array Tmp} {as bd : Code} {caps : List (AV T.U)} {g : FuncId} {it : ItS T} {N : Nat} {F : AF T} {Kend : List (Ent T.U) -> Option R}
  (hF : F.get T f = some (.fn (.func g) [] caps)) (hen : enterable P g = true) (hit : ItOk T P g it) (hc : it.cnt caps H = some N) (hp : plainF F) (hd1 : noDefC C.ms as = true) (hd2 : noDefC C.ms bd = true) (hps : (ps.toList.all fun p => Nat.blt p n) = true)
  (hr : rounds P C n it caps ps.toList as bd F Kend N 0 H = some r) (hs : Sim T w0 S0 ⟨F, H⟩ F' w S φ) {a : Act} (ha : Fr n ds F' a)
  (hend : ∀ H1 w1 S1 φ1 D, Kend H1 = some r -> Sim T w0 S0 ⟨F, H1⟩ F' w1 S1 φ1 -> w1.heap[D]? = some (.deferred (some [])) -> D ∉ S1 -> w0.heap.size <= D -> Q .normal { a with defers := { target := .collected D, args := #[] } :: a.defers } w1) :
  (Code.rangeFunc (.tmp f) ps as bd).wpIn Fence.wide 0 P Q a w := by
 obtain ⟨vf, hvf, hrf⟩ := hs.fr f _ hF
 obtain ⟨va, vb, rfl, hva, hvb⟩ := hrf
 have hva0 : va = #[] := by
  cases hl : va.toList with
  | nil => exact Array.toList_inj.1 (by simpa using hl)
  | cons x r => rw [hl] at hva; exact hva.elim
 subst hva0
 have hev : a.eval (.tmp f) = .func (.func g) #[] vb := ha.eval (x := .tmp f) hvf
 refine wpIn_rangeFunc ?_
 intro fn _
 obtain ⟨rec, hrec⟩ : ∃ rec : LoopState -> Option Code -> Loop, rec = fun st pe => { state := st, pending := pe, fn, tmps := a.tmps, params := ps, assign := as, body := bd, defers := w.heap.size } := ⟨_, rfl⟩
 obtain ⟨W1, hW1⟩ : ∃ W1, (w.alloc (.deferred (some []))).alloc (.loop (rec .ready none)) = W1 := ⟨_, rfl⟩
 have hL1 : W1.heap[w.heap.size + 1]? = some (.loop (rec .ready none)) := by
  rw [<- hW1]; have := World.alloc_heap_new (w.alloc (.deferred (some []))) (.loop (rec .ready none)); rwa [World.size_alloc] at this
 have hK1 : W1.heap[w.heap.size]? = some (.deferred (some [])) := by
  rw [<- hW1]; exact (Below.heap_alloc _ _ _ (by simp)).trans (World.alloc_heap_new w _)
 have hc1 : Chg [] w W1 := by rw [<- hW1]; exact (Chg.alloc _ _).pure (Chg.alloc _ _)
 have hs1 := hs.pure hc1
 have hw0 : w0.heap.size <= w.heap.size := hs.chg.size
 have hSlt : ∀ b ∈ S, b < w.heap.size := fun b hb => (hs.own b hb).2
 refine ⟨w.heap.size + 1, [{ target := .collected w.heap.size, args := #[] }], W1, { target := .fn (.func g) vb, args := #[.func (.yield (w.heap.size + 1)) #[] #[]] }, W1, g,
  #[.func (.yield (w.heap.size + 1)) #[] #[]] ++ vb, W1, ?_, ?_, fun _ _ => trivial, ?_, fun h => (by cases h), ?_⟩
 ·rw [<- hW1, hrec]; exact run_enterLoop_outer _ _ _ _ _
 ·simp only [resolve, hev]
  simp [go_sem]
 ·simp [invoke, go_sem, enterable_run hen]
 generalize hl : w.heap.size + 1 = l at *
 generalize hD : w.heap.size = D at *
 refine callsIn_wide.2 ?_
 have hvb1 : VRL T W1 S φ caps vb.toList := by
  obtain ⟨v, h1, h2⟩ := hs1.fr f _ hF
  rw [hvf] at h1; simp only [Option.some.injEq] at h1; subst h1
  obtain ⟨_, vb', e, _, h3⟩ := h2
  cases e; exact h3
 obtain ⟨Rd, hrd, hcall⟩ := hit caps H N hc _ _ _ _ _ _ _ _ hs1 hvb1
 let J : Nat -> World -> Prop := fun k W => k <= N /\ ∃ H1 S1 φ1, Sim T w0 S0 ⟨F, H1⟩ F' W S1 φ1 /\ l ∉ S1 /\ D ∉ S1 /\ W.heap[l]? = some (.loop (rec .ready none)) /\ W.heap[D]? = some (.deferred (some [])) /\ rounds P C n it caps ps.toList as bd F Kend (N - k) k H1 = some r
 have hlS : l ∉ S := fun h => by have := hSlt l h; omega
 have hDS : D ∉ S := fun h => by have := hSlt D h; omega
 have hl0 : w0.heap.size <= l := by omega
 refine ((hcall l J ?_ ⟨Nat.zero_le _, H, S, φ, hs1, hlS, hDS, hL1, hK1, hr⟩).mono ?_)
 ·
  rintro k W hk ⟨_, H1, S1, φ1, hs2, hl1, hD1, hL, hK, hr1⟩
  obtain ⟨m, hm1⟩ : ∃ m, N - k = m + 1 := ⟨N - k - 1, by omega⟩
  rw [hm1] at hr1
  have hr1 : (match it.item caps H1 k with | some v => round1 P C n ps.toList as bd F v H1 fun H2 => rounds P C n it caps ps.toList as bd F Kend m (k + 1) H2 | none => none) = some r := hr1
  split at hr1 <;> try (cases hr1; done)
  rename_i v hv
  unfold round1 at hr1
  split at hr1 <;> try (cases hr1; done)
  rename_i hlen
  have hlen := Nat.eq_of_beq_eq_true hlen
  have hvb2 : VRL T W S1 φ1 caps vb.toList := by
   obtain ⟨v, h1, h2⟩ := hs2.fr f _ hF
   rw [hvf] at h1; simp only [Option.some.injEq] at h1; subst h1
   obtain ⟨_, vb', e, _, h3⟩ := h2
   cases e; exact h3
  obtain ⟨us, hus, hvr, hok⟩ := hrd k H1 v _ _ _ _ _ _ _ hv hs2 hvb2
  have hus1 : us.length = ps.size := by rw [<- hvr.len T, hlen]; simp
  have hlt : l < W.heap.size := (Array.getElem?_eq_some_iff.1 hL).1
  have hDlt : D < W.heap.size := (Array.getElem?_eq_some_iff.1 hK).1
  refine ⟨us, hus, fn, _, as, bd, by have hy := run_yield (P := P) (args := us.toArray) hL (by rw [hrec]; simpa using hus1); rw [hrec] at hy; exact hy, roundIn_of_wpIn trivial ?_⟩
  have hfr : Fr n [] (putV ps.toList us F') { tmps := (ps.zip us.toArray).foldl (fun t (p : Tmp × Value) => t.setIfInBounds p.1 p.2) a.tmps, defers := [] } := by
   have h0 : Fr n [] F' { tmps := a.tmps, defers := [] } := ⟨ha.size, rfl, ha.val⟩
   have h1 := putV_fr (us := us) hps h0
   have e : (ps.zip us.toArray).foldl (fun t (p : Tmp × Value) => t.setIfInBounds p.1 p.2) a.tmps = (ps.toList.zip us).foldl (fun t (p : Nat × Value) => t.setIfInBounds p.1 p.2) a.tmps := by
    rw [<- Array.foldl_toList]; simp
   rw [e]; exact h1
  have hstart := putA_sim (ps := ps.toList) hs2.anew hvr hok
  refine evC_soundIn (ro := some l) (m := 0) hE hm as [] _ _ _ _ W hd1 (by rintro ⟨_, _, h⟩; exact h) hr1 ⟨?_, fun i st h => (by cases h), fun st h => (by cases h), fun a st h => (by cases h)⟩ ⟨S1, φ1, hstart⟩ _ hfr
  rintro st1 h1 F1 w1 ⟨S2, φ2, hsm⟩ a1 ha1
  obtain ⟨g1, g2, g3, g4, g5, g6⟩ := hs2.after hp hsm
  have hchg : ∀ b, b ∉ S1 -> b < W.heap.size -> w1.heap[b]? = W.heap[b]? /\ b ∉ S2 := fun b hb hbl => ⟨g3.block b hbl fun h => hb (agn_chg.1 h).1, fun h => by rcases g4 b h with h | h; exact hb h; omega⟩
  obtain ⟨hL2, hl2⟩ := hchg l hl1 hlt
  obtain ⟨hK2, hD2⟩ := hchg D hD1 hDlt
  rw [hL] at hL2; rw [hK] at hK2
  have hrb : (rec .ready none).state = .ready := by rw [hrec]
  refine ⟨_, run_beginRound hL2 hrb, ?_⟩
  have ht := Turn.putObj (.loop { rec .ready none with state := .busy }) hL2 rfl
  generalize hw2 : w1.putObj l (.loop { rec .ready none with state := .busy }) = w2 at ht
  have hL3 : w2.heap[l]? = some (.loop { rec .ready none with state := .busy }) := by rw [<- hw2]; exact World.putObj_heap_same (Array.getElem?_eq_some_iff.1 hL2).1
  have hK3 : w2.heap[D]? = some (.deferred (some [])) := by rw [<- hw2]; exact (World.putObj_heap_other (by omega)).trans hK2
  have k1 := g1.turn ht hl2 hl0
  have k2 := g2.turn ht hl2 hl0
  refine evC_soundIn (ro := some l) (m := 0) hE hm bd [] _ _ _ _ w2 hd2 (by rintro ⟨_, _, h⟩; exact h) h1 ⟨?_, fun i st h => (by cases h), fun st h => (by cases h), fun a st h => (by cases h)⟩ ⟨S2, φ2, k1.anew⟩ _ ha1
  rintro st2 h2 F2 w3 ⟨S3, φ3, hsm3⟩ a2 ha2
  obtain ⟨q1, q2, q3, q4, q5, q6⟩ := k2.after hp hsm3
  have hlt3 : l < w2.heap.size := (Array.getElem?_eq_some_iff.1 hL3).1
  have hDlt3 : D < w2.heap.size := (Array.getElem?_eq_some_iff.1 hK3).1
  have hchg3 : ∀ b, b ∉ S2 -> b < w2.heap.size -> w3.heap[b]? = w2.heap[b]? /\ b ∉ S3 := fun b hb hbl => ⟨q3.block b hbl fun h => hb (agn_chg.1 h).1, fun h => by rcases q4 b h with h | h; exact hb h; omega⟩
  obtain ⟨hL4, hl4⟩ := hchg3 l hl2 hlt3
  obtain ⟨hK4, hD4⟩ := hchg3 D hD2 hDlt3
  rw [hL3] at hL4; rw [hK3] at hK4
  refine ⟨_, _, run_endRound none hL4, rfl, by omega, st2.H, S3, φ3, q2.turn (Turn.putObj _ hL4 rfl) hl4 hl0, hl4, hD4, ?_, (World.putObj_heap_other (by omega)).trans hK4, ?_⟩
  ·rw [World.putObj_heap_same (Array.getElem?_eq_some_iff.1 hL4).1, hrec]; rfl
  ·rw [show N - (k + 1) = m by omega]; exact h2
 ·
  rintro e W2 ⟨⟨v, rfl⟩, _, H1, S1, φ1, hs2, hl1, hD1, hL, hK, hr1⟩
  refine ⟨none, _, ?_, hend H1 _ S1 φ1 D ?_ (hs2.turn (Turn.putObj (.loop { rec .ready none with state := .exhausted }) hL rfl) hl1 hl0) ((World.putObj_heap_other (by omega)).trans hK) hD1 (by omega)⟩
  ·have := run_endLoop (P := P) hL (by rw [hrec]; simp)
   rw [this]; congr 1; rw [hrec]
  ·rw [Nat.sub_self] at hr1; exact hr1
end
structure RfP (T : Tab) where
 depth : Nat
 g : FuncId
 it : ItS T
 live : List Nat
section
variable (T : Tab) (P : Program)
def plainB : AF T -> Bool
 | [] => true
 | (_, a) :: r => notEp a && plainB r
noncomputable def rfK (C : Ctx T) (fn : Func) (nl : Nl) (post : List PE) (rs : List Sh) (pv : Sh) (D : RfP T) (c : Code) (st : St T) : Option (denP T post × (denL T rs ⊕ denL T [pv])) :=
 match c with
 | .block _ (.rangeFunc (.tmp f) ps as bd) => (match (keepA T st.F D.live).get T f with
  | some (.fn (.func g) [] caps) => (match Nat.beq g D.g && (enterable P g && (plainB T (keepA T st.F D.live) && (noDefC C.ms as && (noDefC C.ms bd && (ps.toList.all fun p => Nat.blt p fn.ntmps))))) with
   | true => (match D.it.cnt caps st.H with
    | some N => rounds P C fn.ntmps D.it caps ps.toList as bd (keepA T st.F D.live) (fun H => obind (leafG T P fn nl post rs ⟨keepA T st.F D.live, H⟩) fun y => some (y.1, .inl y.2)) N 0 st.H
    | none => none)
   | false => none)
  | _ => none)
 | _ => none
def rfPart : Nat -> Code -> Option (Array Tmp × Code × Code)
 | 0, .block _ (.rangeFunc _ ps as bd) => some (ps, as, bd)
 | k + 1, .seq _ y => rfPart k y
 | _, _ => none
noncomputable def roundsC (C : Ctx T) (fn : Func) (c : Code) (nl : Nl) (post : List PE) (rs : List Sh) (pv : Sh) (D : RfP T) (caps : List (AV T.U)) (m k : Nat) (st : St T) : Option (denP T post × (denL T rs ⊕ denL T [pv])) :=
 match rfPart D.depth c with
 | some (ps, as, bd) => rounds P C fn.ntmps D.it caps ps.toList as bd st.F (fun H => obind (leafG T P fn nl post rs ⟨st.F, H⟩) fun y => some (y.1, .inl y.2)) m k st.H
 | none => none
noncomputable def topR (C : Ctx T) (fn : Func) (c : Code) (nl : Nl) (ps : List Sh) (post : List PE) (rs : List Sh) (pv : Sh) (D : RfP T) (x : denL T ps) : Option (denP T post × (denL T rs ⊕ denL T [pv])) :=
 evS P C fn.ntmps ⟨fun _ => none, fun _ _ => none, fun _ => none, leafP T post rs pv⟩ (rfK T P C fn nl post rs pv D) D.depth c ⟨argFA T (mkAL T id ps x 0) 0, mkEL T id ps x 0⟩
end
section
variable {T : Tab} {P : Program} {w : World} {S : List Nat} {φ : Nat -> RA} {w0 : World} {S0 : Ow} {F : AF T} {H : List (Ent T.U)} {F' : PF}
theorem plainB_spec : ∀ {F : AF T}, plainB T F = true -> plainF F
 | [], _, i, a, h => by simp [AF.get] at h
 | (j, b) :: r, hp, i, a, h => by
  rw [plainB, Bool.and_eq_true] at hp
  simp only [AF.get] at h
  split at h
  ·simp only [Option.some.injEq] at h; subst h; exact hp.1
  ·exact plainB_spec hp.2 i a h
theorem Sim.sub (h : Sim T w0 S0 ⟨F, H⟩ F' w S φ) {F0 : AF T} (hs : ∀ i a, F0.get T i = some a -> F.get T i = some a) : Sim T w0 S0 ⟨F0, H⟩ F' w S φ :=
 ⟨fun i a ha => h.fr i a (hs i a ha), fun i a ha => h.ids i a (hs i a ha), h.chg, h.own, h.ex, h.lives, h.pins, h.ents, h.eids, h.apart⟩
theorem pOkR_of {C : Ctx T} {f : FuncId} {fn : Func} {c : Code} {ps rs : List Sh} {nl : Nl} {post : List PE} {pv : Sh} {D : RfP T} {g : denL T ps -> Option (denP T post × (denL T rs ⊕ denL T [pv]))} (hm : P.follows .mixedOrders = true) (hE : EnvOk T P C.E)
  (hf : P.funcs[f]? = some fn) (hb : fn.body = some c) (hs : Nat.ble ps.length fn.ntmps = true) (hpin : Nat.ble (cntL ps) C.pin = true) (hpost : Nat.beq post.length (cntL ps) = true) (hit : ItOk T P D.g D.it)
  (hg : ∀ x y, g x = some y -> topR T P C fn c nl ps post rs pv D x = some y) : POk T P f ⟨ps, post, rs, pv, g⟩ := by
 intro x y hy w S φ hsim vs hvs hoks
 have hN := hg x y hy
 have hpost := Nat.eq_of_beq_eq_true hpost
 have hall : (mkAL T id ps x 0).length = ps.length := by
  have : ∀ (l : List Sh) (x : denL T l) (k : Nat), (mkAL T id l x k).length = l.length := by
   intro l
   induction l with
   | nil => intro x k; rfl
   | cons s r ih => intro x k; exact congrArg (· + 1) (ih x.2 _)
  exact this ps x 0
 have hlen : vs.length = ps.length := by rw [<- hvs.len T]; exact hall
 have hsz : vs.length <= fn.ntmps := by rw [hlen]; exact Nat.le_of_ble_eq_true hs
 have hfr : Fr fn.ntmps [] (argF vs 0) { tmps := vs.toArray ++ Array.replicate (fn.ntmps - vs.toArray.size) undef, defers := [] } := by
  refine ⟨by simp; omega, rfl, fun i v hv => ?_⟩
  obtain ⟨_, h2⟩ := argF_get vs 0 i v hv
  simp only [Nat.sub_zero] at h2
  have hi := (List.getElem?_eq_some_iff.1 h2).1
  refine ⟨?_, by omega⟩
  rw [Array.getD_eq_getD_getElem?, Array.getElem?_append_left (by simpa using hi)]
  simp [h2]
 have hstart := hsim.slots hvs hoks
 have hpin' : ((List.range (cntL ps)).map φ).length <= C.pin := by simpa using Nat.le_of_ble_eq_true hpin
 refine callsIn_wide.1 (callsIn_of_wp_marks (F := Fence.wide) (n := 0) hf hb trivial (wpIn_wide.2 (evS_sound (r := y) hm hpin' hE D.depth c _ _ _ w hN (K2 := rfK T P C fn nl post rs pv D) ⟨fun st h => (by cases h), fun i st h => (by cases h), fun st h => (by cases h), fun a st h => ?_⟩ ?_ ⟨S, φ, hstart⟩ _ hfr)))
 ·intro F1 w1 S1 φ1 u hsm hvr hok act ha
  have h : leafP T post rs pv a st = some y := h
  unfold leafP at h
  split at h <;> try (cases h; done)
  rename_i y1 l1 h1
  split at h <;> try (cases h; done)
  rename_i z l2 h2
  split at h <;> try (cases h; done)
  rename_i hn
  simp only [Option.some.injEq] at h; subst h
  show LeavesInM Fence.wide 0 P fn act.tmps _ act.defers (.panicking _) w1
  rw [ha.defers]
  exact ⟨z, rfl, u, rfl, ans_of hpost h1 h2 hn hsm ⟨hvr, trivial⟩⟩
 ·intro c2 st h2 F1 w1 hs1 a ha
  obtain ⟨S1, φ1, hsm⟩ := hs1
  unfold rfK at h2
  split at h2 <;> try (cases h2; done)
  rename_i id f2 pa as bd
  split at h2 <;> try (cases h2; done)
  rename_i g2 caps hget
  split at h2 <;> try (cases h2; done)
  rename_i hb2
  simp only [Bool.and_eq_true] at hb2
  obtain ⟨b1, b2, b3, b4, b5, b6⟩ := hb2
  have := Nat.eq_of_beq_eq_true b1; subst this
  split at h2 <;> try (cases h2; done)
  rename_i N hc
  have hsm0 := hsm.sub (F0 := keepA T st.F D.live) fun i a h => keepA_get h
  refine wpIn_wide.1 (wpIn_block (rangeF_sound hE hm hget b2 hit hc (plainB_spec b3) b4 b5 b6 h2 hsm0 ha ?_))
  intro H1 w2 S2 φ2 Dm hend hs2 hD hDS hD0
  obtain ⟨y', hy', he⟩ := obind_some hend
  simp only [Option.some.injEq] at he
  subst he
  show LeavesInM Fence.wide 0 P fn a.tmps _ ({ target := .collected Dm, args := #[] } :: a.defers) .returning w2
  refine ⟨by simp, .inl ⟨Dm, _, rfl, run_takeDeferred hD, ?_⟩⟩
  rw [ha.defers]
  have hs3 := hs2.turn (Turn.putObj (.deferred none) hD rfl) hDS hD0
  obtain ⟨v, h1, us, h3, h4⟩ := leafG_ok hpost hy' ⟨S2, φ2, hs3⟩ ha
  exact ⟨v, h1, _, rfl, us, h3, h4⟩
end
end Go.X
namespace Go.X
open Go.RowKit Go.V
def CWI (P : Program) (c : Code) (Q : Exit -> Act -> World -> Prop) (n : Nat) (F : PF) (w : World) : Prop := ∀ a, Fr n [] F a -> c.wpIn Fence.wide 0 P Q a w
def WRI (P : Program) (ops : Array Oper) (Q : Exit -> Act -> World -> Prop) (k n : Nat) (F : PF) (w : World) : Prop := ∀ a, Fr n [] F a -> wpListIn Fence.wide 0 P ops Q (ops.toList.drop k) a w
section
variable {P : Program} {ops : Array Oper} {Q : Exit -> Act -> World -> Prop} {k n : Nat} {F F' : PF} {w w' : World}
theorem wpOp_wide {o : Oper} {a : Act} {K : Act -> World -> Prop} (h : o.uponIn Fence.wide 0 P a K Q ((execOp a.eval o).run P w)) : o.wpIn Fence.wide 0 P a w K Q :=
 ⟨fun _ _ => trivial, by rw [show Fence.wide.round = none from rfl, Oper.semAt_none]; exact h⟩
theorem WRI.step {o : Oper} (hd : dec ops k n F = some o) (h : ∀ a, Fr n [] F a -> execOp a.eval o = execOp (evD F) o -> o.wpIn Fence.wide 0 P a w (wpListIn Fence.wide 0 P ops Q (ops.toList.drop (k + 1))) Q) : WRI P ops Q k n F w := by
 intro a ha
 obtain ⟨ho, _, hs, hp, hw⟩ := dec_spec hd
 rw [drop_of_get ho]
 unfold wpListIn
 rw [if_pos (hw ha)]
 exact h a ha (exec_eq ha hs hp)
theorem WRI.val {o : Oper} {v : Value} (hd : dec ops k n F = some o) (hr : (execOp (evD F) o).run P w = .ok (.value v) w') (K : WRI P ops Q (k + 1) n (upd F o.dst v) w') : WRI P ops Q k n F w :=
 .step hd fun a ha he => wpOp_wide (by rw [he, hr]; exact K _ (ha.upd (dec_spec hd).2.1 v))
theorem WRI.skip {o : Oper} (hd : dec ops k n F = some o) (hr : (execOp (evD F) o).run P w = .ok .skip w') (K : WRI P ops Q (k + 1) n (upd F o.dst undef) w') : WRI P ops Q k n F w :=
 .step hd fun a ha he => wpOp_wide (by rw [he, hr]; exact K _ (ha.upd (dec_spec hd).2.1 undef))
theorem WRI.one (h : step1 P ops k n F w = some (F', w')) (K : WRI P ops Q (k + 1) n F' w') : WRI P ops Q k n F w := by
 unfold step1 at h
 split at h
 ·cases h
 ·rename_i o ho
  split at h
  ·rename_i hw
   split at h
   ·rename_i hb
    have hd : dec ops k n F = some o := by unfold dec; simp only [ho, hw, hb]
    split at h
    ·rename_i v w₁ hr
     simp only [Option.some.injEq, Prod.mk.injEq] at h
     obtain ⟨rfl, rfl⟩ := h
     exact .val hd hr K
    ·rename_i w₁ hr
     simp only [Option.some.injEq, Prod.mk.injEq] at h
     obtain ⟨rfl, rfl⟩ := h
     exact .skip hd hr K
    ·cases h
   ·cases h
  ·rename_i hw
   split at h
   ·rename_i hb
    simp only [Option.some.injEq, Prod.mk.injEq] at h
    obtain ⟨rfl, rfl⟩ := h
    intro a ha
    rw [drop_of_get ho]
    unfold wpListIn
    rw [if_neg (by rw [wants_spec ha hw]; simp)]
    exact ⟨fun _ _ => trivial, K _ (ha.upd hb undef)⟩
   ·cases h
  ·cases h
theorem WRI.evs : ∀ (m k : Nat) (F : PF) (w : World), evK P ops n m k F w = some (F', w') -> WRI P ops Q (k + m) n F' w' -> WRI P ops Q k n F w
 | 0, _, _, _, h, K => by
  simp only [evK, Option.some.injEq, Prod.mk.injEq] at h
  obtain ⟨rfl, rfl⟩ := h
  exact K
 | m + 1, k, F, w, h, K => by
  unfold evK at h
  split at h
  ·rename_i F₁ w₁ h1
   exact WRI.one h1 (WRI.evs m (k + 1) F₁ w₁ h (by rw [Nat.add_assoc, Nat.add_comm 1 m]; exact K))
  ·cases h
theorem WRI.batch (m : Nat) (F' : PF) (h : (match evK P ops n m k F w with | some (G, w₁) => some (G.keep (F'.map Prod.fst), w₁) | none => none) = some (F', w)) (K : WRI P ops Q (k + m) n F' w) : WRI P ops Q k n F w := by
 split at h
 ·rename_i G w₁ hG
  simp only [Option.some.injEq, Prod.mk.injEq] at h
  obtain ⟨h1, rfl⟩ := h
  exact .evs m k F _ hG fun a ha => K a (ha.keep _ h1)
 ·cases h
theorem WRI.load {dst : Option Tmp} {t : TypeId} {g o : Nat} {c : Array Value} {e : TypeId} (hb : Blk w g c e) (hd : decLoad ops k n F = some (dst, t, .pointer (some ⟨g, o, none⟩))) (v : Value) (hv : ldv P t c o = some v)
  (K : WRI P ops Q (k + 1) n (upd F dst v) w) : WRI P ops Q k n F w := by
 obtain ⟨op, hdec, rfl, he⟩ := decLoad_spec hd
 refine .val hdec (v := v) (w' := w) ?_ K
 rw [he]
 simp [Instr.loadAt, Instr.sureAddr, run_loadVar_ldv hb hv]
def decCallV (ops : Array Oper) (k n : Nat) (F : PF) : Option (Option Tmp × Value × List Value) :=
 match dec ops k n F with | some ⟨dst, .call ⟨.value x, as, _⟩, _, _, _, _⟩ => some (dst, evD F x, as.toList.map (evD F)) | _ => none
theorem WRI.yield {dst : Option Tmp} {l : Nat} {us : List Value} {R : Ending -> World -> Prop} (hd : decCallV ops k n F = some (dst, .func (.yield l) #[] #[], us)) (hy : YieldW P l us.toArray w R)
  (hR : ∀ e w', R e w' -> ∃ v, e = .returned v) (K : ∀ v w', R (.returned v) w' -> WRI P ops Q (k + 1) n (upd F dst v) w') : WRI P ops Q k n F w := by
 unfold decCallV at hd
 split at hd
 ·rename_i d x as ats ty pos af gd hdec
  simp only [Option.some.injEq, Prod.mk.injEq] at hd
  obtain ⟨rfl, h1, rfl⟩ := hd
  obtain ⟨fn, tmps, asg, body, hrun, hround⟩ := hy
  refine .step hdec fun a ha he => wpOp_wide ?_
  have hex : (execOp (evD F) ⟨d, .call ⟨.value x, as, ats⟩, ty, pos, af, gd⟩).run P w = .ok (.round l fn tmps asg body) w := by
   have e : (List.map (evD F) as.toList).toArray = as.map (evD F) := by rw [<- Array.toList_map]
   rw [e] at hrun
   simp [execOp, resolve, h1, Deferred.ofValue, invoke, hrun]
  rw [he, hex]
  refine ⟨fun h => (by cases h), hround.mono fun e w'' hr => ?_⟩
  obtain ⟨v, rfl⟩ := hR e w'' hr
  exact K v w'' hr _ (ha.upd (dec_spec hdec).2.1 v)
 ·cases hd
theorem WRI.fin (hk : Nat.ble ops.size k = true) (K : ∀ a, Fr n [] F a -> Q .normal a w) : WRI P ops Q k n F w := fun a ha => by
 rw [List.drop_eq_nil_of_le (by simpa using Nat.le_of_ble_eq_true hk)]
 exact K a ha
theorem CWI.region {id : Nat} (h : WRI P ops Q 0 n F w) : CWI P (.region id ops false) Q n F w := fun a ha => wpIn_region_list (by simpa using h a ha)
theorem CWI.seq {x y : Code} (h : CWI P x (Exit.then (fun a w => ∃ F1, Fr n [] F1 a /\ CWI P y Q n F1 w) Q) n F w) : CWI P (.seq x y) Q n F w :=
 fun a ha => wpIn_seq (wpIn_mono (h a ha) fun e a' w' hq => by cases e <;> first | exact hq | (obtain ⟨F1, h1, h2⟩ := hq; exact h2 a' h1))
theorem CWI.block {id : Nat} {c : Code} (h : CWI P c (Exit.inBlock id Q) n F w) : CWI P (.block id c) Q n F w := fun a ha => wpIn_block (h a ha)
theorem CWI.cond {c : Operand} {x y : Code} (t : Bool) (hc : ev F c = some (.bool t)) (ht : t = true -> CWI P x Q n F w) (hf : t = false -> CWI P y Q n F w) : CWI P (.cond c x y) Q n F w :=
 fun a ha => wpIn_cond_split (ha.eval hc) (fun h => ht h a ha) (fun h => hf h a ha)
theorem CWI.skip (K : ∀ a, Fr n [] F a -> Q .normal a w) : CWI P .skip Q n F w := fun a ha => wpIn_skip (K a ha)
theorem CWI.exit {id : Nat} (K : ∀ a, Fr n [] F a -> Q (.exit id) a w) : CWI P (.exit id) Q n F w := fun a ha => wpIn_exit (K a ha)
end
theorem inBlock_exit {Q : Exit -> Act -> World -> Prop} {id : Nat} {a : Act} {w : World} (h : Q .normal a w) : Exit.inBlock id Q (.exit id) a w := by
 show (if id = id then Q .normal a w else Q (.exit id) a w)
 rw [if_pos rfl]; exact h
theorem calls_of_CWI {P : Program} {n : Nat} {F : PF} {w : World} {f : FuncId} {fn : Func} {c : Code} {args : Array Value} {R : Ending -> World -> Prop} (hf : P.funcs[f]? = some fn) (hb : fn.body = some c) (hn : fn.ntmps = n) (hs : Nat.ble args.size n = true)
  (l : List Nat) (hF : (argF args.toList 0).keep l = F) (h : CWI P c (bodyPostM Fence.wide 0 P fn R) n F w) : Calls P f args w R := by
 have hsz : args.size <= n := Nat.le_of_ble_eq_true hs
 refine callsIn_wide.1 (callsIn_of_wp_marks (F := Fence.wide) (n := 0) hf hb trivial (h _ (Fr.keep ⟨?_, rfl, ?_⟩ l hF)))
 ·simp [hn]; omega
 ·intro i v hv
  obtain ⟨_, h2⟩ := argF_get args.toList 0 i v hv
  simp only [Nat.sub_zero, Array.getElem?_toList] at h2
  have hi := (Array.getElem?_eq_some_iff.1 h2).1
  refine ⟨?_, by omega⟩
  rw [Array.getD_eq_getD_getElem?, Array.getElem?_append_left hi, h2]
  rfl
section
variable {T : Tab}
def cellAt (H : List (Ent T.U)) (t : TypeId) (i : Nat) : Option Int :=
 match H[i]? with
 | some (.blk t' [.cell ⟨.int .i64, x⟩]) => match Nat.beq t' t with | true => some x | false => none
 | _ => none
def rdPl (ti tj : TypeId) (H : List (Ent T.U)) : List (AV T.U) -> Option (Int × Int)
 | [.ptr i 0, .ptr j 0] => match cellAt H ti i, cellAt H tj j with | some x, some y => some (x, y) | _, _ => none
 | _ => none
def itPl (ti tj : TypeId) : ItS T where
 cnt := fun caps H => match rdPl ti tj H caps with | some (x, _) => forkB (decide (x <= 8)) (some x.toNat) none | none => none
 item := fun caps H k => match rdPl ti tj H caps with
  | some (x, y) => some [cI T .i64 (IntKind.i64.wrap (y + (k : Int))), cI T .i64 (IntKind.i64.wrap (8 * IntKind.i64.wrap (IntKind.i64.wrap (x - 1) - (k : Int))))]
  | none => none
theorem cellAt_spec {H : List (Ent T.U)} {t i : Nat} {x : Int} (h : cellAt H t i = some x) : H[i]? = some (.blk t [cI T .i64 x]) := by
 unfold cellAt at h
 split at h
 ·rename_i t' y hi
  split at h
  ·rename_i hb
   cases h
   rw [hi, Nat.eq_of_beq_eq_true hb]
  ·cases h
 ·cases h
theorem rdPl_spec {ti tj : TypeId} {H : List (Ent T.U)} {caps : List (AV T.U)} {x y : Int} (h : rdPl ti tj H caps = some (x, y)) : ∃ i j, caps = [.ptr i 0, .ptr j 0] /\ H[i]? = some (.blk ti [cI T .i64 x]) /\ H[j]? = some (.blk tj [cI T .i64 y]) := by
 unfold rdPl at h
 split at h
 ·rename_i i j
  split at h
  ·rename_i x' y' h1 h2
   simp only [Option.some.injEq, Prod.mk.injEq] at h
   obtain ⟨rfl, rfl⟩ := h
   exact ⟨i, j, rfl, cellAt_spec h1, cellAt_spec h2⟩
  ·cases h
 ·cases h
variable {w0 w : World} {S0 : Ow} {F : AF T} {H : List (Ent T.U)} {F' : PF} {S : List Nat} {φ : Nat -> RA}
theorem cell_blk (hs : Sim T w0 S0 ⟨F, H⟩ F' w S φ) {i : Nat} {t : TypeId} {x : Int} (hi : H[i]? = some (.blk t [cI T .i64 x])) {g : Nat} (hg : (φ i).ad = some ⟨g, 0, none⟩) : Blk w g #[.int .i64 x] t := by
 obtain ⟨g', c, h1, h2, _, h4⟩ := hs.ents i _ hi
 rw [hg] at h1; simp only [Option.some.injEq, Addr.mk.injEq, and_true] at h1; subst h1
 have h5 := h4.vrl T rfl
 match hc : c.toList, h5 with
 | [v], h5 =>
  obtain ⟨h6, _⟩ := h5
  have h6 : CR T w S (.int .i64) x v := h6
  cases h6
  have : c = #[Value.int .i64 x] := Array.toList_inj.1 (by rw [hc])
  rw [<- this]; exact h2
 | [], h5 => exact h5.elim
 | _ :: _ :: _, h5 => exact h5.2.elim
theorem itPl_ok {P : Program} {g : FuncId} {ti tj : TypeId}
  (hrun : ∀ (g1 g2 l : Nat) (sz : Int) (J : Nat -> World -> Prop) (w : World), sz <= 8 -> (∃ y, Blk w g1 #[.int .i64 sz] ti /\ Blk w g2 #[.int .i64 y] tj) ->
   (∀ k W, k < sz.toNat -> J k W -> ∃ x y, Blk W g1 #[.int .i64 x] ti /\ Blk W g2 #[.int .i64 y] tj /\ YieldW P l #[.int .i64 (IntKind.i64.wrap (y + (k : Int))), .int .i64 (IntKind.i64.wrap (8 * IntKind.i64.wrap (IntKind.i64.wrap (x - 1) - (k : Int))))] W fun e W' => e = .returned (.bool true) /\ J (k + 1) W') ->
   J 0 w -> Calls P g #[.func (.yield l) #[] #[], .pointer (some ⟨g1, 0, none⟩), .pointer (some ⟨g2, 0, none⟩)] w fun e W' => (∃ v, e = .returned v) /\ J sz.toNat W') : ItOk T P g (itPl ti tj) := by
 intro caps H N hc0 w0 S0 F F' w S φ vb hs hv
 have hc : (match rdPl ti tj H caps with | some (x, _) => forkB (decide (x <= 8)) (some x.toNat) none | none => none) = some N := hc0
 clear hc0
 split at hc <;> try (cases hc; done)
 rename_i x y hr
 obtain ⟨i, j, rfl, hi, hj⟩ := rdPl_spec hr
 rcases forkB_cases hc with ⟨hx, hc⟩ | ⟨_, hc⟩
 case inr => cases hc
 simp only [Option.some.injEq] at hc; subst hc
 match vb, hv with
 | [v1, v2], hv =>
  obtain ⟨⟨g1, a1, rfl⟩, ⟨g2, a2, rfl⟩, _⟩ := hv
  refine ⟨fun k W us => ∃ x y, Blk W g1 #[.int .i64 x] ti /\ Blk W g2 #[.int .i64 y] tj /\ us = [.int .i64 (IntKind.i64.wrap (y + (k : Int))), .int .i64 (IntKind.i64.wrap (8 * IntKind.i64.wrap (IntKind.i64.wrap (x - 1) - (k : Int))))], ?_, ?_⟩
  ·intro k H1 v w0 S0 F F' w1 S1 φ1 hit hs1 hv1
   have hit : (match rdPl ti tj H1 [.ptr i 0, .ptr j 0] with
    | some (x, y) => some [cI T .i64 (IntKind.i64.wrap (y + (k : Int))), cI T .i64 (IntKind.i64.wrap (8 * IntKind.i64.wrap (IntKind.i64.wrap (x - 1) - (k : Int))))]
    | none => none) = some v := hit
   split at hit <;> try (cases hit; done)
   rename_i x1 y1 hr1
   simp only [Option.some.injEq] at hit; subst hit
   obtain ⟨i', j', e, hi1, hj1⟩ := rdPl_spec hr1
   simp only [List.cons.injEq, AV.ptr.injEq, and_true] at e
   obtain ⟨rfl, rfl⟩ := e
   obtain ⟨⟨g1', a1', e1⟩, ⟨g2', a2', e2⟩, _⟩ := hv1
   simp only [Value.pointer.injEq, Option.some.injEq, Addr.mk.injEq, and_true] at e1 e2
   subst e1; subst e2
   refine ⟨_, ⟨x1, y1, cell_blk hs1 hi1 a1', cell_blk hs1 hj1 a2', rfl⟩, ⟨.int _ _, .int _ _, trivial⟩, fun a ha => ?_⟩
   simp only [List.mem_cons, List.not_mem_nil, or_false] at ha
   rcases ha with rfl | rfl <;> exact okA_notEp rfl (by intro i hi; cases hi)
  ·intro l J hround h0
   have hx8 : x <= 8 := of_decide_eq_true hx
   refine hrun g1 g2 l x J w hx8 ⟨y, cell_blk hs hi a1, cell_blk hs hj a2⟩ (fun k W hk hJ => ?_) h0
   obtain ⟨us, ⟨x1, y1, b1, b2, rfl⟩, hy⟩ := hround k W hk hJ
   exact ⟨x1, y1, b1, b2, hy⟩
end
end Go.X
