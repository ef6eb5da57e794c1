/- A closure that is deferred and recovers: what it leaves; a function that defers one. Nothing here is about one program. -/
import Derived.Test.YtjjlcenmifcaeaaX21
namespace Go.X
open Go.RowKit Go.V

section
variable {T : Tab} {P : Program} {w w' : World} {S S' : List Nat} {φ φ' : Nat → RA} {w0 : World} {S0 : Ow} {F : AF T} {H : List (Ent T.U)} {F' : PF}
end
/-- A closure that is deferred: what it leaves, of what it holds and what recover tells. -/
structure DSpec (T : Tab) where
  ps : List Sh
  rv : Sh
  post : List PE
  g : denL T (ps ++ [rv]) → Option (denP T post)
/-- how a frame is left, that tells this at recover. -/
def modeOf : Value → FrameMode
  | .nilIface => .returning
  | v => .panicking [{ v := v, recovered := false }]
def DOk (T : Tab) (P : Program) (f : FuncId) (sp : DSpec T) : Prop :=
  ∀ x y, sp.g x = some y → ∀ (w : World) (S : List Nat) (φ : Nat → RA), Sim T w ⟨blksN φ (cntL (sp.ps ++ [sp.rv])), S, (List.range (cntL (sp.ps ++ [sp.rv]))).map φ⟩ ⟨[], mkEL T id (sp.ps ++ [sp.rv]) x 0⟩ [] w S φ →
  ∀ (vs : List Value) (v : Value), VRL T w S φ (mkAL T id (sp.ps ++ [sp.rv]) x 0) (vs ++ [v]) → (∀ a ∈ mkAL T id (sp.ps ++ [sp.rv]) x 0, okA (mkEL T id (sp.ps ++ [sp.rv]) x 0) a) →
  CallsD P f vs.toArray (modeOf v) w fun e u' w' => (∃ v0, e = .returned v0) ∧ u' = (recU (modeOf v)).2 ∧ AnsG T sp.post [] y () w S φ (cntL (sp.ps ++ [sp.rv])) w' []
section
variable {T : Tab} (P : Program)
/-- its answer: what it was handed, as it is now. -/
def leafDf (post : List PE) (st : St T) : Option (denP T post) := match rdP T st.H post 0 (srcP post 0) with | some (y, l) => (match nodupO l with | true => some y | false => none) | none => none
def leafsDf (post : List PE) : Ks T (denP T post) := ⟨leafDf post, fun _ _ => none, leafDf post, fun _ _ => none⟩
noncomputable def topDf (C : Ctx T) (fn : Func) (c : Code) (ps : List Sh) (rv : Sh) (post : List PE) (x : denL T (ps ++ [rv])) : Option (denP T post) :=
  match c with
  | .seq (.region _ ops false) rest => match recOp ops, (mkAL T id (ps ++ [rv]) x 0)[ps.length]? with
    | some d, some a => (match okDst fn.ntmps (some d) with
      | true => regG (fun o st K => stepA P C o st K fun _ _ => none) ops fn.ntmps (evC P C fn.ntmps [] (fun _ _ => none) rest [] (leafsDf post)) (ops.toList.drop 1) ⟨(d, a) :: argFA T ((mkAL T id (ps ++ [rv]) x 0).take ps.length) 0, mkEL T id (ps ++ [rv]) x 0⟩
      | false => none)
    | _, _ => none
  | _ => none
/-- the closure, called as the frame is left. -/
def callDf {R : Type} (sp : DSpec T) (as : List (AV T.U)) (H : List (Ent T.U)) (K : List (Ent T.U) → Option R) : Option R :=
  match rdSL T H (sp.ps ++ [sp.rv]) as [] with
  | some (x, l) => match nodupN (idsO l) && rowsOk T H (idsO l) sp.post with
    | true => obind (sp.g x) fun y => K (setIo T H (idsO l) (mkP T (σJ (idsO l) H.length) sp.post y sp.post.length) ++ (mkPN T (σJ (idsO l) H.length) sp.post y sp.post.length ++ mkEL T (σJ (idsO l) H.length) [] () (sp.post.length + cntP sp.post)))
    | false => none
  | none => none
/-- Of a function that defers: how deep the place lies, the closure's slot, what is kept there, the entries that stay where they are, the closure and what it holds, what it leaves. -/
structure DefP (T : Tab) where
  depth : Nat
  sl : Nat
  live : List Nat
  pin : Nat
  g : FuncId
  cp : List (Nat × Nat)
  dr : DSpec T
  dp : DSpec T
def capsOf {U : Nat → Type} : List (Nat × Nat) → List (AV U)
  | [] => []
  | (i, o) :: r => .ptr i o :: capsOf r
def capsEq {U : Nat → Type} : List (Nat × Nat) → List (AV U) → Bool
  | [], [] => true
  | (i, o) :: r, .ptr j p :: s => Nat.beq i j && (Nat.beq o p && capsEq r s)
  | _, _ => false
def isIfc {U : Nat → Type} : AV U → Bool | .ifc _ _ => true | _ => false
def leafsD (fn : Func) (nl : Nl) (post : List PE) (rs : List Sh) (D : DefP T) : Ks T (denP T post × denL T rs) :=
  let ret := fun (st : St T) => callDf D.dr (capsOf D.cp ++ [.raw .nilIface]) st.H fun H1 => leafG T P fn nl post rs ⟨st.F, H1⟩
  ⟨ret, fun _ _ => none, ret, fun a st => match isIfc a with | true => callDf D.dp (capsOf D.cp ++ [a]) st.H fun H1 => leafG T P fn nl post rs ⟨st.F, H1⟩ | false => none⟩
def notDef : Op → Bool | .defer _ => false | _ => true
def defSl (o : Oper) : Option Nat := match o.op with | .defer c => (match c.callee, c.args.toList, o.dst, o.guard with | .value (.tmp t), [], none, none => some t | _, _, _, _ => none) | _ => none
/-- the last one defers, no other. -/
def defOps (ops : Array Oper) (sl : Nat) : Bool := (ops.toList.dropLast.all fun o => notDef o.op) && (match ops.toList.getLast? with | some o => (match defSl o with | some t => Nat.beq t sl | none => false) | none => false)
def stepDf {R : Type} (C : Ctx T) (Kp : AV T.U → St T → Option R) (o : Oper) (st : St T) (K : St T → Option R) : Option R := match notDef o.op with | true => stepA P C o st K Kp | false => (match defSl o with | some t => (match st.F.get T t with | some (.fn _ [] _) => K st | _ => none) | none => none)
def Ctx.at (C : Ctx T) (m : Nat) : Ctx T := ⟨C.ty, C.E, m, C.ms, C.lay, C.dr, C.pm⟩
/-- behind it. -/
noncomputable def startB (C : Ctx T) (cuts : List (Pos × Cut)) (fn : Func) (B : Code) (nl : Nl) (post : List PE) (rs : List Sh) (D : DefP T) (m : Nat) (st : St T) : Option (denP T post × denL T rs) :=
  match trim T C.pin D.live st with
  | some st2 => match st2.F.get T D.sl with
    | some (.fn (.func g) [] caps) => match Nat.beq g D.g && (enterable P g && (capsEq D.cp caps && ((D.cp.all fun p => Nat.blt p.1 D.pin) && (Nat.ble C.pin D.pin && Nat.ble D.pin st2.H.length)))) with
      | true => evC P (C.at D.pin) fn.ntmps cuts (run P (C.at D.pin) fn.ntmps cuts B (leafsD P fn nl post rs D) m) B [] (leafsD P fn nl post rs D) st2
      | false => none
    | _ => none
  | none => none
noncomputable def deferK (C : Ctx T) (cuts : List (Pos × Cut)) (fn : Func) (nl : Nl) (post : List PE) (rs : List Sh) (D : DefP T) (m : Nat) (c : Code) (st : St T) : Option (denP T post × denL T rs) :=
  match c with
  | .seq (.region _ ops false) B => match defOps ops D.sl with
    | true => regG (stepDf P C fun _ _ => none) ops fn.ntmps (startB P C cuts fn B nl post rs D m) ops.toList st
    | false => none
  | _ => none
noncomputable def evS {R : Type} (C : Ctx T) (n : Nat) (K : Ks T R) (K2 : Code → St T → Option R) : Nat → Code → St T → Option R
  | 0, c, st => K2 c st
  | k + 1, .seq x y, st => evC P C n [] (fun _ _ => none) x [] (K.behind fun st => evS C n K K2 k y st) st
  | _ + 1, _, _ => none
def defRest : Nat → Code → Code
  | 0, .seq _ B => B
  | k + 1, .seq _ y => defRest k y
  | _, _ => .skip
noncomputable def topD (C : Ctx T) (cuts : List (Pos × Cut)) (fn : Func) (c : Code) (nl : Nl) (ps : List Sh) (post : List PE) (rs : List Sh) (D : DefP T) (m : Nat) (x : denL T ps) : Option (denP T post × denL T rs) :=
  evS P C fn.ntmps (leafsG T P fn nl post rs) (deferK P C cuts fn nl post rs D m) D.depth c ⟨argFA T (mkAL T id ps x 0) 0, mkEL T id ps x 0⟩
noncomputable def cutD (C : Ctx T) (cuts : List (Pos × Cut)) (fn : Func) (c : Code) (nl : Nl) (post : List PE) (rs : List Sh) (D : DefP T) (m : Nat) (q : Pos) (st : St T) : Option (denP T post × denL T rs) :=
  run P (C.at D.pin) fn.ntmps cuts (defRest D.depth c) (leafsD P fn nl post rs D) m q st
end
section
variable {T : Tab} {P : Program} {w w' : World} {S S' : List Nat} {φ φ' : Nat → RA} {w0 : World} {S0 : Ow} {F : AF T} {H : List (Ent T.U)} {F' : PF}
theorem evS_sound {R : Type} {r : R} {C : Ctx T} {n : Nat} {ds : List Deferred} (hm : P.follows .mixedOrders = true) (hp : S0.pin.length ≤ C.pin) (hE : EnvOk T P C.E) {K : Ks T R} {K2 : Code → St T → Option R} : ∀ (k : Nat) (c : Code) (st : St T) (Q : Exit → Act → World → Prop) (F' : PF) (w : World),
    evS P C n K K2 k c st = some r → KsOk Q n ds w0 S0 r K → (∀ c st, K2 c st = some r → ∀ F1 w1, Stands T w0 S0 st F1 w1 → ∀ a, Fr n ds F1 a → c.wp P Q a w1) → Stands T w0 S0 st F' w → CW P c Q n ds F' w
  | 0, c, st, Q, F', w, h, hK, h2, hs => fun a ha => h2 c st h F' w hs a ha
  | k + 1, c, st, Q, F', w, h, hK, h2, hs => by
    cases c with
    | seq x y =>
      have h : evC P C n [] (fun _ _ => none) x [] (K.behind fun st => evS P C n K K2 k y st) st = some r := h
      have := evC_sound hm hp hE x _ _ st _ F' w h (hK.behind (X := y.wp P Q) fun st1 h1 F1 w1 hs1 a ha => evS_sound hm hp hE k y st1 Q F1 w1 h1 hK h2 hs1 a ha) (JOk.none _ _ _) hs
      exact fun a ha => wp_seq (this a ha)
    | _ => cases h
end
end Go.X
