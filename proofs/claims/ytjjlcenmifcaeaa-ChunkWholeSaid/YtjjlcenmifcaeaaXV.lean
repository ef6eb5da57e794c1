/- A range over a function, whose body is walked anew in each round; a function that ends with one. Nothing here is about one program. -/
import Derived.Test.YtjjlcenmifcaeaaXW
namespace Go.X
open Go.RowKit Go.V

def YieldW (P : Program) (l : Nat) (args : Array Value) (W : World) (R : Ending → World → Prop) : Prop :=
  ∃ fn tmps assign body, (Instr.yield l args).run P W = .ok (.round l fn tmps assign body) W ∧ RoundIn Fence.wide 0 P l fn tmps assign body W R
/-- What is known of an iterator: how often it calls, with what. -/
structure ItS (T : Tab) where
  cnt : List (AV T.U) → List (Ent T.U) → Option Nat
  item : List (AV T.U) → List (Ent T.U) → Nat → Option (List (AV T.U))
  chk : List (AV T.U) → List (Ent T.U) → Nat → Option Bool := fun _ _ _ => none
/-- what is asked of the state in each round: that it still tells of as many rounds. -/
def chkT : Option Bool → Prop | none => True | some c => c = true
def chkF {R : Type} (o : Option Bool) (x : Option R) : Option R := match o with | none => x | some c => forkB c x none
theorem chkF_some {R : Type} {o : Option Bool} {x : Option R} {r : R} (h : chkF o x = some r) : chkT o ∧ x = some r := by
  cases o with
  | none => exact ⟨trivial, h⟩
  | some c => cases c with
    | true => exact ⟨rfl, h⟩
    | false => cases h
def ItOk (T : Tab) (P : Program) (g : FuncId) (it : ItS T) : Prop :=
  ∀ (caps : List (AV T.U)) (H : List (Ent T.U)) (N : Nat), it.cnt caps H = some N →
    ∀ (w0 : World) (S0 : Ow) (F : AF T) (F' : PF) (w : World) (S : List Nat) (φ : Nat → RA) (vb : List Value), Sim T w0 S0 ⟨F, H⟩ F' w S φ → VRL T w S φ caps vb →
    ∃ (Rd : Nat → World → List Value → Prop) (Re : World → Prop),
      (∀ (k : Nat) (H1 : List (Ent T.U)) (v : List (AV T.U)) (w0 : World) (S0 : Ow) (F : AF T) (F' : PF) (w1 : World) (S1 : List Nat) (φ1 : Nat → RA), chkT (it.chk caps H1 N) → it.item caps H1 k = some v → Sim T w0 S0 ⟨F, H1⟩ F' w1 S1 φ1 → VRL T w1 S1 φ1 caps vb →
        ∃ us, Rd k w1 us ∧ VRL T w1 S1 φ1 v us ∧ ∀ a ∈ v, okA H1 a) ∧
      (∀ (H1 : List (Ent T.U)) (w0 : World) (S0 : Ow) (F : AF T) (F' : PF) (w1 : World) (S1 : List Nat) (φ1 : Nat → RA), chkT (it.chk caps H1 N) → Sim T w0 S0 ⟨F, H1⟩ F' w1 S1 φ1 → VRL T w1 S1 φ1 caps vb → Re w1) ∧
      ∀ (l : Nat) (J : Nat → World → Prop), (∀ k W, k < N → J k W → ∃ us, Rd k W us ∧ YieldW P l us.toArray W fun e W' => e = .returned (.bool true) ∧ J (k + 1) W') → (∀ W, J N W → Re W) → (∀ k W W', J k W → Chg [] W W' → J k W') → J 0 w →
        Calls P g (#[.func (.yield l) #[] #[]] ++ vb.toArray) w fun e W' => (∃ v, e = .returned v) ∧ J N W'
/-! ### A state made small again -/
mutual
theorem ren_same {U : Nat → Type} {ρ : Nat → Nat} : ∀ {a : AV U}, (∀ i ∈ a.ids, ρ i = i) → a.ren ρ = a
  | .cell _, _ => by rw [AV.ren]
  | .ptr i _, h => by rw [AV.ren, h i (by simp [AV.ids])]
  | .eptr i _ _ _, h => by rw [AV.ren, h i (by simp [AV.ids])]
  | .lptr _ _ _ _, _ => by rw [AV.ren]
  | .own i, h => by rw [AV.ren, h i (by simp [AV.ids])]
  | .sl i _ _ _, h => by rw [AV.ren, h i (by simp [AV.ids])]
  | .agg cs, h => by rw [AV.ren, renL_same (by rwa [AV.ids] at h)]
  | .tup cs, h => by rw [AV.ren, renL_same (by rwa [AV.ids] at h)]
  | .fn _ a b, h => by
    rw [AV.ids] at h
    rw [AV.ren, renL_same fun i hi => h i (List.mem_append.2 (.inl hi)), renL_same fun i hi => h i (List.mem_append.2 (.inr hi))]
  | .ifc _ a, h => by rw [AV.ren, ren_same (by rwa [AV.ids] at h)]
  | .raw _, _ => by rw [AV.ren]
  | .arr _ _ _, _ => by rw [AV.ren]
  | .aptr i _ _ _ _ _, h => by rw [AV.ren, h i (by simp [AV.ids])]
  | .asl i _ _ _ _ _, h => by rw [AV.ren, h i (by simp [AV.ids])]
  | .mp i, h => by rw [AV.ren, h i (by simp [AV.ids])]
theorem renL_same {U : Nat → Type} {ρ : Nat → Nat} : ∀ {as : List (AV U)}, (∀ i ∈ idsL as, ρ i = i) → renL ρ as = as
  | [], _ => by rw [renL]
  | a :: r, h => by
    rw [idsL] at h
    rw [renL, ren_same fun i hi => h i (List.mem_append.2 (.inl hi)), renL_same fun i hi => h i (List.mem_append.2 (.inr hi))]
end
theorem renF_same {T : Tab} {ρ : Nat → Nat} : ∀ {F : AF T}, (∀ i ∈ idsF T F, ρ i = i) → renF T ρ F = F
  | [], _ => rfl
  | (j, a) :: r, h => by
    rw [idsF] at h
    rw [renF, ren_same fun i hi => h i (List.mem_append.2 (.inl hi)), renF_same fun i hi => h i (List.mem_append.2 (.inr hi))]
/-- what is not reached from the first m goes; their places stay. -/
def trimH {T : Tab} (m : Nat) (F : AF T) (H : List (Ent T.U)) : Option (List (Ent T.U)) :=
  let ids := closeN T H (H.length + 1) (List.range m)
  match pinOk m ids && (nodupN ids && (subN ids (idsF T F) && (subN ids (idsH T H ids) && (idsF T F).all fun i => Nat.blt i m))) with
  | true => some (entsOf T H (fun i => idxN i ids) ids)
  | false => none
theorem trimH_sim {T : Tab} {w0 : World} {S0 : Ow} {F : AF T} {H H1 : List (Ent T.U)} {F' : PF} {w : World} {S : List Nat} {φ : Nat → RA} {m : Nat} (hm : S0.pin.length ≤ m) (h : Sim T w0 S0 ⟨F, H⟩ F' w S φ) (ht : trimH m F H = some H1) :
    ∃ φ', Sim T w0 S0 ⟨F, H1⟩ F' w S φ' := by
  unfold trimH at ht
  simp only at ht
  split at ht
  · rename_i hb
    simp only [Bool.and_eq_true] at hb
    obtain ⟨b1, b2, b3, b4, b5⟩ := hb
    simp only [Option.some.injEq] at ht; subst ht
    have := h.renum (F1 := F) _ (fun i a ha => ha) b2 (fun k hk => pinOk_spec b1 (Nat.lt_of_lt_of_le hk hm)) (subN_spec b3) (subN_spec b4)
    rw [renF_same] at this
    · exact ⟨_, this⟩
    · intro i hi
      have hi : i < m := Nat.le_of_ble_eq_true (List.all_eq_true.1 b5 i hi)
      have hk := pinOk_spec b1 hi
      obtain ⟨q1, q2⟩ := idxN_spec (List.mem_of_getElem? hk)
      exact nodupN_inj b2 q2 hk
  · cases ht
section
variable {T : Tab} {R : Type}
/-- parameters are set. -/
def putA : List Nat → List (AV T.U) → AF T → AF T
  | p :: ps, a :: as, F => putA ps as ((p, a) :: F)
  | _, _, F => F
def putV : List Nat → List Value → PF → PF
  | p :: ps, v :: vs, F => putV ps vs ((p, v) :: F)
  | _, _, F => F
variable (P : Program) (C : Ctx T) (n : Nat)
/-- one round: what is assigned, the body. -/
noncomputable def round1 (ps : List Nat) (as bd : Code) (F : AF T) (v : List (AV T.U)) (H : List (Ent T.U)) (K : List (Ent T.U) → Option R) : Option R :=
  match Nat.beq v.length ps.length with
  | true => evC P C n [] (fun _ _ => none) as [] ⟨fun st => evC P C n [] (fun _ _ => none) bd [] ⟨fun st2 => K st2.H, fun _ _ => none, fun _ => none, fun _ _ => none⟩ st, fun _ _ => none, fun _ => none, fun _ _ => none⟩ ⟨putA ps v F, H⟩
  | false => none
def tmK (tm : Option Nat) (F : AF T) (K : List (Ent T.U) → Option R) (H : List (Ent T.U)) : Option R := match tm with | none => K H | some m => (match trimH (C.pin + m) F H with | some H1 => K H1 | none => none)
noncomputable def rounds (tm : Option Nat) (it : ItS T) (caps : List (AV T.U)) (ps : List Nat) (as bd : Code) (F : AF T) (Kend : List (Ent T.U) → Option R) (m : Nat) : Nat → List (Ent T.U) → Option R :=
  Nat.rec (fun k H => chkF (it.chk caps H k) (Kend H)) (fun m ih k H => chkF (it.chk caps H (k + (m + 1))) (match it.item caps H k with | some v => round1 P C n ps as bd F v H (tmK C tm F (ih (k + 1))) | none => none)) m
end
section
variable {T : Tab} {P : Program} {C : Ctx T} {w0 : World} {S0 : Ow} {n : Nat} {ds : List Deferred} {R : Type} {r : R} {w : World} {S : List Nat} {φ : Nat → RA} {F : AF T} {H : List (Ent T.U)} {F' : PF}
theorem putV_fr : ∀ {ps : List Nat} {us : List Value} {F' : PF} {a : Act}, (ps.all fun p => Nat.blt p n) = true → Fr n ds F' a →
    Fr n ds (putV ps us F') { a with tmps := (ps.zip us).foldl (fun t (p : Nat × Value) => t.setIfInBounds p.1 p.2) a.tmps }
  | [], _, F', a, _, h => h
  | _ :: _, [], F', a, _, h => h
  | p :: ps, u :: us, F', a, hp, h => by
    rw [List.all_cons, Bool.and_eq_true] at hp
    have h1 := h.upd (dst := some p) (by simpa [okDst] using hp.1) u
    exact putV_fr (ps := ps) (us := us) hp.2 h1
theorem putA_sim : ∀ {ps : List Nat} {v : List (AV T.U)} {us : List Value} {F : AF T} {F' : PF}, Sim T w0 S0 ⟨F, H⟩ F' w S φ → VRL T w S φ v us → (∀ a ∈ v, okA H a) → Sim T w0 S0 ⟨putA ps v F, H⟩ (putV ps us F') w S φ
  | [], v, us, F, F', h, hv, _ => by cases v <;> cases us <;> exact h
  | _ :: _, [], [], F, F', h, _, _ => h
  | _ :: _, [], _ :: _, _, _, _, hv, _ => hv.elim
  | _ :: _, _ :: _, [], _, _, _, hv, _ => hv.elim
  | p :: ps, a :: v, u :: us, F, F', h, hv, ho => putA_sim (ps := ps) (h.slot (dst := some p) hv.1 (ho a (List.mem_cons_self ..))) hv.2 fun b hb => ho b (List.mem_cons_of_mem _ hb)
/-- **A RANGE OVER A FUNCTION.** -/
theorem rangeF_sound (hE : EnvOk T P C.E) (hm : P.follows .mixedOrders = true) {Q : Exit → Act → World → Prop} {f : Tmp} {ps : Array Tmp} {as bd : Code} {caps : List (AV T.U)} {g : FuncId} {it : ItS T} {N : Nat} {F : AF T} {Kend : List (Ent T.U) → Option R}
    (hF : F.get T f = some (.fn (.func g) [] caps)) (hen : enterable P g = true) (hit : ItOk T P g it) (hc : it.cnt caps H = some N) (hp : plainF F) (hd1 : noDefC C.ms as = true) (hd2 : noDefC C.ms bd = true) (hps : (ps.toList.all fun p => Nat.blt p n) = true) {tm : Option Nat} (hpn : S0.pin.length ≤ C.pin)
    (hr : rounds P C n tm it caps ps.toList as bd F Kend N 0 H = some r) (hs : Sim T w0 S0 ⟨F, H⟩ F' w S φ) {a : Act} (ha : Fr n ds F' a)
    (hend : ∀ H1 w1 S1 φ1 D, Kend H1 = some r → Sim T w0 S0 ⟨F, H1⟩ F' w1 S1 φ1 → w1.heap[D]? = some (.deferred (some [])) → D ∉ S1 → w0.heap.size ≤ D → Q .normal { a with defers := { target := .collected D, args := #[] } :: a.defers } w1) :
    (Code.rangeFunc (.tmp f) ps as bd).wpIn Fence.wide 0 P Q a w := by
  obtain ⟨vf, hvf, hrf⟩ := hs.fr f _ hF
  obtain ⟨va, vb, rfl, hva, hvb⟩ := hrf
  have hva0 : va = #[] := by
    cases hl : va.toList with
    | nil => exact Array.toList_inj.1 (by simpa using hl)
    | cons x r => rw [hl] at hva; exact hva.elim
  subst hva0
  have hev : a.eval (.tmp f) = .func (.func g) #[] vb := ha.eval (x := .tmp f) hvf
  refine wpIn_rangeFunc ?_
  intro fn _
  obtain ⟨rec, hrec⟩ : ∃ rec : LoopState → Option Code → Loop, rec = fun st pe => { state := st, pending := pe, fn, tmps := a.tmps, params := ps, assign := as, body := bd, defers := w.heap.size } := ⟨_, rfl⟩
  obtain ⟨W1, hW1⟩ : ∃ W1, (w.alloc (.deferred (some []))).alloc (.loop (rec .ready none)) = W1 := ⟨_, rfl⟩
  have hL1 : W1.heap[w.heap.size + 1]? = some (.loop (rec .ready none)) := by
    rw [← hW1]; have := World.alloc_heap_new (w.alloc (.deferred (some []))) (.loop (rec .ready none)); rwa [World.size_alloc] at this
  have hK1 : W1.heap[w.heap.size]? = some (.deferred (some [])) := by
    rw [← hW1]; exact (Below.heap_alloc _ _ _ (by simp)).trans (World.alloc_heap_new w _)
  have hc1 : Chg [] w W1 := by rw [← hW1]; exact (Chg.alloc _ _).pure (Chg.alloc _ _)
  have hs1 := hs.pure hc1
  have hw0 : w0.heap.size ≤ w.heap.size := hs.chg.size
  have hSlt : ∀ b ∈ S, b < w.heap.size := fun b hb => (hs.own b hb).2
  refine ⟨w.heap.size + 1, [{ target := .collected w.heap.size, args := #[] }], W1, { target := .fn (.func g) vb, args := #[.func (.yield (w.heap.size + 1)) #[] #[]] }, W1, g,
    #[.func (.yield (w.heap.size + 1)) #[] #[]] ++ vb, W1, ?_, ?_, fun _ _ => trivial, ?_, fun h => (by cases h), ?_⟩
  · rw [← hW1, hrec]; exact run_enterLoop_outer _ _ _ _ _
  · simp only [resolve, hev]
    simp [go_sem]
  · simp [invoke, go_sem, enterable_run hen]
  generalize hl : w.heap.size + 1 = l at *
  generalize hD : w.heap.size = D at *
  refine callsIn_wide.2 ?_
  have hvb1 : VRL T W1 S φ caps vb.toList := by
    obtain ⟨v, h1, h2⟩ := hs1.fr f _ hF
    rw [hvf] at h1; simp only [Option.some.injEq] at h1; subst h1
    obtain ⟨_, vb', e, _, h3⟩ := h2
    cases e; exact h3
  obtain ⟨Rd, Re, hrd, hre, hcall⟩ := hit caps H N hc _ _ _ _ _ _ _ _ hs1 hvb1
  let J : Nat → World → Prop := fun k W => k ≤ N ∧ ∃ H1 S1 φ1, Sim T w0 S0 ⟨F, H1⟩ F' W S1 φ1 ∧ l ∉ S1 ∧ D ∉ S1 ∧ W.heap[l]? = some (.loop (rec .ready none)) ∧ W.heap[D]? = some (.deferred (some [])) ∧ rounds P C n tm it caps ps.toList as bd F Kend (N - k) k H1 = some r
  have hlS : l ∉ S := fun h => by have := hSlt l h; omega
  have hDS : D ∉ S := fun h => by have := hSlt D h; omega
  have hl0 : w0.heap.size ≤ l := by omega
  refine ((hcall l J ?_ ?_ ?_ ⟨Nat.zero_le _, H, S, φ, hs1, hlS, hDS, hL1, hK1, hr⟩).mono ?_)
  · -- a round
    rintro k W hk ⟨_, H1, S1, φ1, hs2, hl1, hD1, hL, hK, hr1⟩
    obtain ⟨m, hm1⟩ : ∃ m, N - k = m + 1 := ⟨N - k - 1, by omega⟩
    rw [hm1] at hr1
    have hr1 : chkF (it.chk caps H1 (k + (m + 1))) (match it.item caps H1 k with | some v => round1 P C n ps.toList as bd F v H1 (tmK C tm F (rounds P C n tm it caps ps.toList as bd F Kend m (k + 1))) | none => none) = some r := hr1
    rw [show k + (m + 1) = N by omega] at hr1
    obtain ⟨hck, hr1⟩ := chkF_some hr1
    split at hr1 <;> try (cases hr1; done)
    rename_i v hv
    unfold round1 at hr1
    split at hr1 <;> try (cases hr1; done)
    rename_i hlen
    have hlen := Nat.eq_of_beq_eq_true hlen
    have hvb2 : VRL T W S1 φ1 caps vb.toList := by
      obtain ⟨v, h1, h2⟩ := hs2.fr f _ hF
      rw [hvf] at h1; simp only [Option.some.injEq] at h1; subst h1
      obtain ⟨_, vb', e, _, h3⟩ := h2
      cases e; exact h3
    obtain ⟨us, hus, hvr, hok⟩ := hrd k H1 v _ _ _ _ _ _ _ hck hv hs2 hvb2
    have hus1 : us.length = ps.size := by rw [← hvr.len T, hlen]; simp
    have hlt : l < W.heap.size := (Array.getElem?_eq_some_iff.1 hL).1
    have hDlt : D < W.heap.size := (Array.getElem?_eq_some_iff.1 hK).1
    refine ⟨us, hus, fn, _, as, bd, by have hy := run_yield (P := P) (args := us.toArray) hL (by rw [hrec]; simpa using hus1); rw [hrec] at hy; exact hy, roundIn_of_wpIn trivial ?_⟩
    have hfr : Fr n [] (putV ps.toList us F') { tmps := (ps.zip us.toArray).foldl (fun t (p : Tmp × Value) => t.setIfInBounds p.1 p.2) a.tmps, defers := [] } := by
      have h0 : Fr n [] F' { tmps := a.tmps, defers := [] } := ⟨ha.size, rfl, ha.val⟩
      have h1 := putV_fr (us := us) hps h0
      have e : (ps.zip us.toArray).foldl (fun t (p : Tmp × Value) => t.setIfInBounds p.1 p.2) a.tmps = (ps.toList.zip us).foldl (fun t (p : Nat × Value) => t.setIfInBounds p.1 p.2) a.tmps := by
        rw [← Array.foldl_toList]; simp
      rw [e]; exact h1
    have hstart := putA_sim (ps := ps.toList) hs2.anew hvr hok
    refine evC_soundIn (ro := some l) (m := 0) hE hm as [] _ _ _ _ W hd1 (by rintro ⟨_, _, h⟩; exact h) hr1 ⟨?_, fun i st h => (by cases h), fun st h => (by cases h), fun a st h => (by cases h)⟩ ⟨S1, φ1, hstart⟩ _ hfr
    rintro st1 h1 F1 w1 ⟨S2, φ2, hsm⟩ a1 ha1
    obtain ⟨g1, g2, g3, g4, g5, g6⟩ := hs2.after hp hsm
    have hchg : ∀ b, b ∉ S1 → b < W.heap.size → w1.heap[b]? = W.heap[b]? ∧ b ∉ S2 := fun b hb hbl => ⟨g3.block b hbl fun h => hb (agn_chg.1 h).1, fun h => by rcases g4 b h with h | h; exact hb h; omega⟩
    obtain ⟨hL2, hl2⟩ := hchg l hl1 hlt
    obtain ⟨hK2, hD2⟩ := hchg D hD1 hDlt
    rw [hL] at hL2; rw [hK] at hK2
    have hrb : (rec .ready none).state = .ready := by rw [hrec]
    refine ⟨_, run_beginRound hL2 hrb, ?_⟩
    have ht := Turn.putObj (.loop { rec .ready none with state := .busy }) hL2 rfl
    generalize hw2 : w1.putObj l (.loop { rec .ready none with state := .busy }) = w2 at ht
    have hL3 : w2.heap[l]? = some (.loop { rec .ready none with state := .busy }) := by rw [← hw2]; exact World.putObj_heap_same (Array.getElem?_eq_some_iff.1 hL2).1
    have hK3 : w2.heap[D]? = some (.deferred (some [])) := by rw [← hw2]; exact (World.putObj_heap_other (by omega)).trans hK2
    have k1 := g1.turn ht hl2 hl0
    have k2 := g2.turn ht hl2 hl0
    refine evC_soundIn (ro := some l) (m := 0) hE hm bd [] _ _ _ _ w2 hd2 (by rintro ⟨_, _, h⟩; exact h) h1 ⟨?_, fun i st h => (by cases h), fun st h => (by cases h), fun a st h => (by cases h)⟩ ⟨S2, φ2, k1.anew⟩ _ ha1
    rintro st2 h2 F2 w3 ⟨S3, φ3, hsm3⟩ a2 ha2
    obtain ⟨q1, q2, q3, q4, q5, q6⟩ := k2.after hp hsm3
    have hlt3 : l < w2.heap.size := (Array.getElem?_eq_some_iff.1 hL3).1
    have hDlt3 : D < w2.heap.size := (Array.getElem?_eq_some_iff.1 hK3).1
    have hchg3 : ∀ b, b ∉ S2 → b < w2.heap.size → w3.heap[b]? = w2.heap[b]? ∧ b ∉ S3 := fun b hb hbl => ⟨q3.block b hbl fun h => hb (agn_chg.1 h).1, fun h => by rcases q4 b h with h | h; exact hb h; omega⟩
    obtain ⟨hL4, hl4⟩ := hchg3 l hl2 hlt3
    obtain ⟨hK4, hD4⟩ := hchg3 D hD2 hDlt3
    rw [hL3] at hL4; rw [hK3] at hK4
    obtain ⟨H5, φ5, q2, h2⟩ : ∃ H5 φ5, Sim T w0 S0 ⟨F, H5⟩ F' w3 S3 φ5 ∧ rounds P C n tm it caps ps.toList as bd F Kend m (k + 1) H5 = some r := by
      unfold tmK at h2
      cases tm with
      | none => exact ⟨_, _, q2, h2⟩
      | some m0 =>
        simp only at h2
        split at h2 <;> try (cases h2; done)
        rename_i H5 ht5
        obtain ⟨φ5, q5⟩ := trimH_sim (Nat.le_trans hpn (Nat.le_add_right _ _)) q2 ht5
        exact ⟨H5, φ5, q5, h2⟩
    refine ⟨_, _, run_endRound none hL4, rfl, by omega, H5, S3, φ5, q2.turn (Turn.putObj _ hL4 rfl) hl4 hl0, hl4, hD4, ?_, (World.putObj_heap_other (by omega)).trans hK4, ?_⟩
    · rw [World.putObj_heap_same (Array.getElem?_eq_some_iff.1 hL4).1, hrec]; rfl
    · rw [show N - (k + 1) = m by omega]; exact h2
  · -- at the end
    rintro W ⟨_, H1, S1, φ1, hs2, _, _, _, _, hr1⟩
    rw [Nat.sub_self] at hr1
    have hr1 : chkF (it.chk caps H1 N) (Kend H1) = some r := hr1
    refine hre H1 _ _ _ _ _ _ _ (chkF_some hr1).1 hs2 ?_
    obtain ⟨v, h1, h2⟩ := hs2.fr f _ hF
    rw [hvf] at h1; simp only [Option.some.injEq] at h1; subst h1
    obtain ⟨_, vb', e, _, h3⟩ := h2
    cases e; exact h3
  · -- what is only drawn
    rintro k W W' ⟨h1, H1, S1, φ1, hs2, hl1, hD1, hL, hK, hr1⟩ hc
    exact ⟨h1, H1, S1, φ1, hs2.pure hc, hl1, hD1, (hc.block l (Array.getElem?_eq_some_iff.1 hL).1 (by simp)).trans hL, (hc.block D (Array.getElem?_eq_some_iff.1 hK).1 (by simp)).trans hK, hr1⟩
  · -- behind the iterator
    rintro e W2 ⟨⟨v, rfl⟩, _, H1, S1, φ1, hs2, hl1, hD1, hL, hK, hr1⟩
    refine ⟨none, _, ?_, hend H1 _ S1 φ1 D ?_ (hs2.turn (Turn.putObj (.loop { rec .ready none with state := .exhausted }) hL rfl) hl1 hl0) ((World.putObj_heap_other (by omega)).trans hK) hD1 (by omega)⟩
    · have := run_endLoop (P := P) hL (by rw [hrec]; simp)
      rw [this]; congr 1; rw [hrec]
    · rw [Nat.sub_self] at hr1
      have hr1 : chkF (it.chk caps H1 N) (Kend H1) = some r := hr1
      exact (chkF_some hr1).2
end
/-- How a function ends with a range over a function: behind how many parts; over which function; what of its frame the body sees. -/
structure RfP (T : Tab) where
  depth : Nat
  g : FuncId
  it : ItS T
  live : List Nat
section
variable (T : Tab) (P : Program)
def plainB : AF T → Bool
  | [] => true
  | (_, a) :: r => notEp a && plainB r
end
section
variable {T : Tab} {P : Program} {w : World} {S : List Nat} {φ : Nat → RA} {w0 : World} {S0 : Ow} {F : AF T} {H : List (Ent T.U)} {F' : PF}
theorem plainB_spec : ∀ {F : AF T}, plainB T F = true → plainF F
  | [], _, i, a, h => by simp [AF.get] at h
  | (j, b) :: r, hp, i, a, h => by
    rw [plainB, Bool.and_eq_true] at hp
    simp only [AF.get] at h
    split at h
    · simp only [Option.some.injEq] at h; subst h; exact hp.1
    · exact plainB_spec hp.2 i a h
theorem Sim.sub (h : Sim T w0 S0 ⟨F, H⟩ F' w S φ) {F0 : AF T} (hs : ∀ i a, F0.get T i = some a → F.get T i = some a) : Sim T w0 S0 ⟨F0, H⟩ F' w S φ :=
  ⟨fun i a ha => h.fr i a (hs i a ha), fun i a ha => h.ids i a (hs i a ha), h.chg, h.own, h.ex, h.lives, h.pins, h.ents, h.eids, h.apart⟩
end
end Go.X
