/- A closure that is deferred and recovers: what it leaves; a function that defers one. Nothing here is about one program. -/
import Derived.Test.YtjjlcenmifcaeaaX21
namespace Go.X
open Go.RowKit Go.V

section
variable {T : Tab} {P : Program} {w w' : World} {S S' : List Nat} {φ φ' : Nat → RA} {w0 : World} {S0 : Ow} {F : AF T} {H : List (Ent T.U)} {F' : PF}
end
/-- A closure that is deferred: what it leaves, of what it holds and what recover tells. -/
structure DSpec (T : Tab) where
  ps : List Sh
  rv : Sh
  post : List PE
  g : denL T (ps ++ [rv]) → Option (denP T post)
section
variable {T : Tab} (P : Program)
/-- Of a function that defers: how deep the place lies, the closure's slot, what is kept there, the entries that stay where they are, the closure and what it holds, what it leaves. -/
structure DefP (T : Tab) where
  depth : Nat
  sl : Nat
  live : List Nat
  pin : Nat
  g : FuncId
  cp : List (Nat × Nat)
  dr : DSpec T
  dp : DSpec T
def notDef : Op → Bool | .defer _ => false | _ => true
noncomputable def evS {R : Type} (C : Ctx T) (n : Nat) (K : Ks T R) (K2 : Code → St T → Option R) : Nat → Code → St T → Option R
  | 0, c, st => K2 c st
  | k + 1, .seq x y, st => evC P C n [] (fun _ _ => none) x [] (K.behind fun st => evS C n K K2 k y st) st
  | _ + 1, _, _ => none
end
section
variable {T : Tab} {P : Program} {w w' : World} {S S' : List Nat} {φ φ' : Nat → RA} {w0 : World} {S0 : Ow} {F : AF T} {H : List (Ent T.U)} {F' : PF}
theorem evS_sound {R : Type} {r : R} {C : Ctx T} {n : Nat} {ds : List Deferred} (hm : P.follows .mixedOrders = true) (hp : S0.pin.length ≤ C.pin) (hE : EnvOk T P C.E) {K : Ks T R} {K2 : Code → St T → Option R} : ∀ (k : Nat) (c : Code) (st : St T) (Q : Exit → Act → World → Prop) (F' : PF) (w : World),
    evS P C n K K2 k c st = some r → KsOk Q n ds w0 S0 r K → (∀ c st, K2 c st = some r → ∀ F1 w1, Stands T w0 S0 st F1 w1 → ∀ a, Fr n ds F1 a → c.wp P Q a w1) → Stands T w0 S0 st F' w → CW P c Q n ds F' w
  | 0, c, st, Q, F', w, h, hK, h2, hs => fun a ha => h2 c st h F' w hs a ha
  | k + 1, c, st, Q, F', w, h, hK, h2, hs => by
    cases c with
    | seq x y =>
      have h : evC P C n [] (fun _ _ => none) x [] (K.behind fun st => evS P C n K K2 k y st) st = some r := h
      have := evC_sound hm hp hE x _ _ st _ F' w h (hK.behind (X := y.wp P Q) fun st1 h1 F1 w1 hs1 a ha => evS_sound hm hp hE k y st1 Q F1 w1 h1 hK h2 hs1 a ha) (JOk.none _ _ _) hs
      exact fun a ha => wp_seq (this a ha)
    | _ => cases h
end
end Go.X
