/- A function that leaves the first block that it was handed as it was. Nothing here is about one program. -/
import Derived.Test.YtjjlcenmifcaeaaX21
namespace Go.X
open Go.RowKit Go.V

/-- shapes in which no entry lies, and that say just what is there. -/
def Sh.simple : Sh → Bool
  | .val _ => true | .arr _ _ => true | .at_ _ _ => true | .ap _ _ _ _ _ => true | .nilp => true | .rw _ => true | .own _ => true | _ => false
def notNil {U : Nat → Type} : AV U → Bool | .raw (.slice none 0 0) => false | _ => true
section
variable {T : Tab}
end
/-- Its first argument is a pointer to a block, which stays. -/
structure KSpec (T : Tab) where
  o : Nat
  e : TypeId
  cs : List Sh
  ps : List Sh
  post : List PE
  rs : List Sh
  g : denL T (.ptr o e cs :: ps) → Option (denP T (.blk e cs :: post) × denL T rs)
def KSpec.toG {T : Tab} (sp : KSpec T) : GSpec T := ⟨.ptr sp.o sp.e sp.cs :: sp.ps, .blk sp.e sp.cs :: sp.post, sp.rs, sp.g⟩
def headOk {T : Tab} (H : List (Ent T.U)) : List (AV T.U) → Bool
  | .ptr i _ :: _ => (match H[i]? with | some (.blk _ cs) => cs.all notNil | _ => false)
  | _ => false
def KSpec.toCall {T : Tab} (sp : KSpec T) (alt : CallSpec T) : CallSpec T where
  call := fun as H K Kp => match rdSL T H sp.toG.ps as [] with
    | some (x, l) => match nodupN (idsO l) && rowsOk T H (idsO l) sp.toG.post with
      | true => match sp.cs.all Sh.simple && headOk H as with
        | true => obind (sp.g x) fun y => K (packR T (mkAL T (σJ (idsO l) H.length) sp.rs y.2 (sp.toG.post.length + cntP sp.toG.post))) (setIo T H (idsO l).tail (mkP T (σJ (idsO l) H.length) sp.toG.post y.1 sp.toG.post.length).tail ++ (mkPN T (σJ (idsO l) H.length) sp.toG.post y.1 sp.toG.post.length ++ mkEL T (σJ (idsO l) H.length) sp.rs y.2 (sp.toG.post.length + cntP sp.toG.post)))
        | false => none
      | false => none
    | none => alt.call as H K Kp
  q := alt.q
  isq := alt.isq
  wr := fun as H => match rdSL T H sp.toG.ps as [] with | some (_, l) => (idsO l).tail | none => alt.wr as H
section
variable {T : Tab} {P : Program}
/-- what is so by what is read: one thing is known where c tells so, another one where not. -/
def CallSpec.forkH {T : Tab} (c : List (AV T.U) → List (Ent T.U) → Bool) (a b : CallSpec T) : CallSpec T where
  call := fun as H K Kp => forkB (c as H) (a.call as H K Kp) (b.call as H K Kp)
  q := fun as H K => forkB (c as H) (a.q as H K) (b.q as H K)
  isq := a.isq
  wr := fun as H => a.wr as H ++ b.wr as H
def CallSpec.forkS {T : Tab} (ps : List Sh) (c : denL T ps → Bool) (a b : CallSpec T) : CallSpec T := CallSpec.forkH (fun as H => match rdSL T H ps as [] with | some (x, _) => c x | none => false) a b
theorem forkHCall_ok {f : FuncId} (c : List (AV T.U) → List (Ent T.U) → Bool) {a b : CallSpec T} (ha : SoundCall T P f a ∧ SoundQ T P f a ∧ DetC a) (hb : SoundCall T P f b ∧ SoundQ T P f b ∧ DetC b) : SoundCall T P f (CallSpec.forkH c a b) ∧ SoundQ T P f (CallSpec.forkH c a b) ∧ DetC (CallSpec.forkH c a b) := by
  refine ⟨fun as H K Kp r h => ?_, fun as H K r h => ?_, fun as H K Kp r h => ?_⟩
  · rcases forkB_cases h with ⟨_, h⟩ | ⟨_, h⟩
    · exact ha.1 as H K Kp r h
    · exact hb.1 as H K Kp r h
  · rcases forkB_cases h with ⟨_, h⟩ | ⟨_, h⟩
    · exact ha.2.1 as H K r h
    · exact hb.2.1 as H K r h
  · have ec : ∀ c0, c as H = c0 → ∀ {R' : Type} (K' Kp' : AV T.U → List (Ent T.U) → Option R'), (CallSpec.forkH c a b).call as H K' Kp' = forkB c0 (a.call as H K' Kp') (b.call as H K' Kp') := fun c0 hc _ K' Kp' => by
      subst hc; rfl
    have ew : (CallSpec.forkH c a b).wr as H = a.wr as H ++ b.wr as H := rfl
    rw [ew]
    have kl : ∀ {H1 : List (Ent T.U)}, Keeps T (a.wr as H) H H1 → Keeps T (a.wr as H ++ b.wr as H) H H1 := fun h => ⟨h.len, fun e he hn => h.same e he fun hm => hn (List.mem_append.2 (.inl hm)), h.row⟩
    have kr : ∀ {H1 : List (Ent T.U)}, Keeps T (b.wr as H) H H1 → Keeps T (a.wr as H ++ b.wr as H) H H1 := fun h => ⟨h.len, fun e he hn => h.same e he fun hm => hn (List.mem_append.2 (.inr hm)), h.row⟩
    cases hc : c as H with
    | true =>
      rw [ec _ hc] at h
      have := ha.2.2 as H K Kp r h
      rcases this with ⟨x, H1, h1, h2, h3⟩ | ⟨x, H1, h1, h2, h3⟩
      · exact .inl ⟨x, H1, h1, kl h2, fun K' Kp' => (ec _ hc K' Kp').trans (h3 K' Kp')⟩
      · exact .inr ⟨x, H1, h1, kl h2, fun K' Kp' => (ec _ hc K' Kp').trans (h3 K' Kp')⟩
    | false =>
      rw [ec _ hc] at h
      have := hb.2.2 as H K Kp r h
      rcases this with ⟨x, H1, h1, h2, h3⟩ | ⟨x, H1, h1, h2, h3⟩
      · exact .inl ⟨x, H1, h1, kr h2, fun K' Kp' => (ec _ hc K' Kp').trans (h3 K' Kp')⟩
      · exact .inr ⟨x, H1, h1, kr h2, fun K' Kp' => (ec _ hc K' Kp').trans (h3 K' Kp')⟩
theorem forkSCall_ok {f : FuncId} (ps : List Sh) (c : denL T ps → Bool) {a b : CallSpec T} (ha : SoundCall T P f a ∧ SoundQ T P f a ∧ DetC a) (hb : SoundCall T P f b ∧ SoundQ T P f b ∧ DetC b) : SoundCall T P f (CallSpec.forkS ps c a b) ∧ SoundQ T P f (CallSpec.forkS ps c a b) ∧ DetC (CallSpec.forkS ps c a b) := forkHCall_ok _ ha hb
end
end Go.X
