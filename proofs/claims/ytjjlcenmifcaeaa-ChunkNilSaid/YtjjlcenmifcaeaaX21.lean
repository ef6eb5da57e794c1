/- A function that answers or panics, known by shapes. Nothing here is about one program. -/
import Derived.Test.YtjjlcenmifcaeaaXO
namespace Go.X
open Go.RowKit Go.V

structure PSpec (T : Tab) where
  ps : List Sh
  post : List PE
  rs : List Sh
  pv : Sh
  g : denL T ps → Option (denP T post × (denL T rs ⊕ denL T [pv]))
section
variable (T : Tab) (P : Program)
def POk (f : FuncId) (sp : PSpec T) : Prop := ∀ x y, sp.g x = some y → ∀ (w : World) (S : List Nat) (φ : Nat → RA), Sim T w ⟨blksN φ (cntL sp.ps), S, (List.range (cntL sp.ps)).map φ⟩ ⟨[], mkEL T id sp.ps x 0⟩ [] w S φ →
  ∀ vs : List Value, VRL T w S φ (mkAL T id sp.ps x 0) vs → (∀ a ∈ mkAL T id sp.ps x 0, okA (mkEL T id sp.ps x 0) a) →
  Calls P f vs.toArray w fun e w' => match e with
    | .returned v => ∃ z, y.2 = .inl z ∧ ∃ us, AnsG T sp.post sp.rs y.1 z w S φ (cntL sp.ps) w' us ∧ v = packV us
    | .panicked ch => ∃ z, y.2 = .inr z ∧ ∃ u, ch = [{ v := u, recovered := false }] ∧ AnsG T sp.post [sp.pv] y.1 z w S φ (cntL sp.ps) w' [u]
    | .outgrown => False
def PSpec.toCall {T : Tab} (sp : PSpec T) (alt : CallSpec T) : CallSpec T where
  call := fun as H K Kp => match rdSL T H sp.ps as [] with
    | some (x, l) => match nodupN (idsO l) && rowsOk T H (idsO l) sp.post with
      | true => obind (sp.g x) fun y => match y.2 with
        | .inl z => K (packR T (mkAL T (σJ (idsO l) H.length) sp.rs z (sp.post.length + cntP sp.post))) (setIo T H (idsO l) (mkP T (σJ (idsO l) H.length) sp.post y.1 sp.post.length) ++ (mkPN T (σJ (idsO l) H.length) sp.post y.1 sp.post.length ++ mkEL T (σJ (idsO l) H.length) sp.rs z (sp.post.length + cntP sp.post)))
        | .inr z => Kp (packR T (mkAL T (σJ (idsO l) H.length) [sp.pv] z (sp.post.length + cntP sp.post))) (setIo T H (idsO l) (mkP T (σJ (idsO l) H.length) sp.post y.1 sp.post.length) ++ (mkPN T (σJ (idsO l) H.length) sp.post y.1 sp.post.length ++ mkEL T (σJ (idsO l) H.length) [sp.pv] z (sp.post.length + cntP sp.post)))
      | false => none
    | none => alt.call as H K Kp
  q := alt.q
  isq := alt.isq
  wr := fun as H => match rdSL T H sp.ps as [] with | some (_, l) => idsO l | none => alt.wr as H
/-- what a panic tells, read. -/
def leafP (nl : Nl) (post : List PE) (rs : List Sh) (pv : Sh) (a : AV T.U) (st : St T) : Option (denP T post × (denL T rs ⊕ denL T [pv])) :=
  match rdP T (ownNilsB T nl.bn st.H) post 0 (srcP post 0) with
  | some (y, l) => match rdSL T (ownNilsB T nl.bn st.H) [pv] [a] l with
    | some (z, l') => match nodupO l' with | true => some (y, .inr z) | false => none
    | none => none
  | none => none
def leafsP (fn : Func) (nl : Nl) (post : List PE) (rs : List Sh) (pv : Sh) : Ks T (denP T post × (denL T rs ⊕ denL T [pv])) :=
  ⟨fun st => obind (leafG T P fn nl post rs st) fun y => some (y.1, .inl y.2), fun _ _ => none, fun st => obind (leafG T P fn nl post rs st) fun y => some (y.1, .inl y.2), leafP T nl post rs pv⟩
noncomputable def topP (C : Ctx T) (cuts : List (Pos × Cut)) (fn : Func) (c : Code) (nl : Nl) (ps : List Sh) (post : List PE) (rs : List Sh) (pv : Sh) (m : Nat) (x : denL T ps) : Option (denP T post × (denL T rs ⊕ denL T [pv])) :=
  evC P C fn.ntmps cuts (run P C fn.ntmps cuts c (leafsP T P fn nl post rs pv) m) c [] (leafsP T P fn nl post rs pv) ⟨argFA T (mkAL T id ps x 0) 0, mkEL T id ps x 0⟩
noncomputable def cutP (C : Ctx T) (cuts : List (Pos × Cut)) (fn : Func) (c : Code) (nl : Nl) (post : List PE) (rs : List Sh) (pv : Sh) (m : Nat) (q : Pos) (st : St T) : Option (denP T post × (denL T rs ⊕ denL T [pv])) :=
  run P C fn.ntmps cuts c (leafsP T P fn nl post rs pv) m q st
end
section
variable {T : Tab} {P : Program} {w w' : World} {S S' : List Nat} {φ φ' : Nat → RA} {w0 : World} {S0 : Ow} {F : AF T} {H : List (Ent T.U)} {F' : PF}
/-- a function of which one thing is known where c tells so, another one where not. -/
def CallSpec.fork {T : Tab} (c : List (AV T.U) → Bool) (a b : CallSpec T) : CallSpec T where
  call := fun as H K Kp => forkB (c as) (a.call as H K Kp) (b.call as H K Kp)
  q := fun as H K => forkB (c as) (a.q as H K) (b.q as H K)
  isq := a.isq
  wr := fun as H => match c as with | true => a.wr as H | false => b.wr as H
end
end Go.X
