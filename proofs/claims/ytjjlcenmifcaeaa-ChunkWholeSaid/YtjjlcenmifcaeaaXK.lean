/- A function that leaves the first block that it was handed as it was. Nothing here is about one program. -/
import Derived.Test.YtjjlcenmifcaeaaX21
namespace Go.X
open Go.RowKit Go.V

section
variable {T : Tab}
end
/-- Its first argument is a pointer to a block, which stays. -/
structure KSpec (T : Tab) where
  o : Nat
  e : TypeId
  cs : List Sh
  ps : List Sh
  post : List PE
  rs : List Sh
  g : denL T (.ptr o e cs :: ps) → Option (denP T (.blk e cs :: post) × denL T rs)
section
variable {T : Tab} {P : Program}
/-- what is so by what is read: one thing is known where c tells so, another one where not. -/
def CallSpec.forkH {T : Tab} (c : List (AV T.U) → List (Ent T.U) → Bool) (a b : CallSpec T) : CallSpec T where
  call := fun as H K Kp => forkB (c as H) (a.call as H K Kp) (b.call as H K Kp)
  q := fun as H K => forkB (c as H) (a.q as H K) (b.q as H K)
  isq := a.isq
  wr := fun as H => a.wr as H ++ b.wr as H
def CallSpec.forkS {T : Tab} (ps : List Sh) (c : denL T ps → Bool) (a b : CallSpec T) : CallSpec T := CallSpec.forkH (fun as H => match rdSL T H ps as [] with | some (x, _) => c x | none => false) a b
theorem forkHCall_ok {f : FuncId} (c : List (AV T.U) → List (Ent T.U) → Bool) {a b : CallSpec T} (ha : SoundCall T P f a ∧ SoundQ T P f a ∧ DetC a) (hb : SoundCall T P f b ∧ SoundQ T P f b ∧ DetC b) : SoundCall T P f (CallSpec.forkH c a b) ∧ SoundQ T P f (CallSpec.forkH c a b) ∧ DetC (CallSpec.forkH c a b) := by
  refine ⟨fun as H K Kp r h => ?_, fun as H K r h => ?_, fun as H K Kp r h => ?_⟩
  · rcases forkB_cases h with ⟨_, h⟩ | ⟨_, h⟩
    · exact ha.1 as H K Kp r h
    · exact hb.1 as H K Kp r h
  · rcases forkB_cases h with ⟨_, h⟩ | ⟨_, h⟩
    · exact ha.2.1 as H K r h
    · exact hb.2.1 as H K r h
  · have ec : ∀ c0, c as H = c0 → ∀ {R' : Type} (K' Kp' : AV T.U → List (Ent T.U) → Option R'), (CallSpec.forkH c a b).call as H K' Kp' = forkB c0 (a.call as H K' Kp') (b.call as H K' Kp') := fun c0 hc _ K' Kp' => by
      subst hc; rfl
    have ew : (CallSpec.forkH c a b).wr as H = a.wr as H ++ b.wr as H := rfl
    rw [ew]
    have kl : ∀ {H1 : List (Ent T.U)}, Keeps T (a.wr as H) H H1 → Keeps T (a.wr as H ++ b.wr as H) H H1 := fun h => ⟨h.len, fun e he hn => h.same e he fun hm => hn (List.mem_append.2 (.inl hm)), h.row⟩
    have kr : ∀ {H1 : List (Ent T.U)}, Keeps T (b.wr as H) H H1 → Keeps T (a.wr as H ++ b.wr as H) H H1 := fun h => ⟨h.len, fun e he hn => h.same e he fun hm => hn (List.mem_append.2 (.inr hm)), h.row⟩
    cases hc : c as H with
    | true =>
      rw [ec _ hc] at h
      have := ha.2.2 as H K Kp r h
      rcases this with ⟨x, H1, h1, h2, h3⟩ | ⟨x, H1, h1, h2, h3⟩
      · exact .inl ⟨x, H1, h1, kl h2, fun K' Kp' => (ec _ hc K' Kp').trans (h3 K' Kp')⟩
      · exact .inr ⟨x, H1, h1, kl h2, fun K' Kp' => (ec _ hc K' Kp').trans (h3 K' Kp')⟩
    | false =>
      rw [ec _ hc] at h
      have := hb.2.2 as H K Kp r h
      rcases this with ⟨x, H1, h1, h2, h3⟩ | ⟨x, H1, h1, h2, h3⟩
      · exact .inl ⟨x, H1, h1, kr h2, fun K' Kp' => (ec _ hc K' Kp').trans (h3 K' Kp')⟩
      · exact .inr ⟨x, H1, h1, kr h2, fun K' Kp' => (ec _ hc K' Kp').trans (h3 K' Kp')⟩
theorem forkSCall_ok {f : FuncId} (ps : List Sh) (c : denL T ps → Bool) {a b : CallSpec T} (ha : SoundCall T P f a ∧ SoundQ T P f a ∧ DetC a) (hb : SoundCall T P f b ∧ SoundQ T P f b ∧ DetC b) : SoundCall T P f (CallSpec.forkS ps c a b) ∧ SoundQ T P f (CallSpec.forkS ps c a b) ∧ DetC (CallSpec.forkS ps c a b) := forkHCall_ok _ ha hb
end
end Go.X
