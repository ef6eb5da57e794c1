/- A law's arguments, as the statement reads them, are typed things; a law that tells true. Nothing here is about one program. -/
import Derived.Test.YtnldbfeakocbnaaGreatX20
import Derived.Test.YtnldbfeakocbnaaGreatOp
namespace Go.X
open Go.RowKit Go.V Go.ChangeShapes Go.WideShapes Go.ChangeAt Go.Deep

/-- numbers lie within their kinds, lists are no longer than may be. -/
inductive GoodV (T : Tab) : (t : Ty) → den T.U t → Prop
  | int (k : IntKind) (x : Int) (h : k.min ≤ x ∧ x ≤ k.max) : GoodV T (.int k) x
  | bool (b : Bool) : GoodV T .bool b
  | str (s : ByteArray) (h : s.size ≤ maxLen) : GoodV T .str s
  | list (e : Ty) (xs : List (den T.U e)) (hl : xs.length ≤ maxLen) (h : ∀ x ∈ xs, ∀ c ∈ flat T e x, GoodV T c.t c.x) : GoodV T (.list e) xs
def Good (T : Tab) (t : Ty) (x : den T.U t) : Prop := ∀ c ∈ flat T t x, GoodV T c.t c.x
def cellsTy (ct : Nat → List Ty) : Ty → List Ty | .user i => ct i | t => [t]
/-- What is told of a program's structs. -/
structure Packs (T : Tab) (ct : Nat → List Ty) : Prop where
  pack : ∀ (i : Nat) (cl : List (Cell T.U)), cl.map (·.t) = ct i → ∃ x, T.pack i cl = some x
  size : ∀ i, T.size i = (ct i).length
def opnFields (P : Program) (g : TypeId → List Ty → Bool) : List Field → Nat → List Ty → Bool
  | [], _, tys => match tys with | [] => true | _ :: _ => false
  | f :: r, o, tys => Nat.beq f.offset o && (Nat.ble (P.cellsOf f.type) tys.length && (g f.type (tys.take (P.cellsOf f.type)) && opnFields P g r (o + P.cellsOf f.type) (tys.drop (P.cellsOf f.type))))
/-- A type's cells are of these sorts. -/
def opnB (P : Program) (ct : Nat → List Ty) : Nat → TypeId → List Ty → Bool
  | 0, _, _ => false
  | n + 1, t, tys => match P.underlying t with
    | some (.int k) => match tys with | [.int k'] => kindEq k k' && Nat.beq (P.cellsOf t) 1 | _ => false
    | some .bool => match tys with | [.bool] => Nat.beq (P.cellsOf t) 1 | _ => false
    | some .string => match tys with | [.str] => Nat.beq (P.cellsOf t) 1 | _ => false
    | some (.slice e) => match tys with | [.list ty] => Nat.ble 1 (cellsTy ct ty).length && (Nat.beq (P.cellsOf e) (cellsTy ct ty).length && opnB P ct n e (cellsTy ct ty)) | _ => false
    | some (.struct fs) => opnFields P (opnB P ct n) fs.toList 0 tys
    | _ => false
section
variable {T : Tab} {P : Program} {ct : Nat → List Ty} {H : Type} {enc : TypeId × Value → H} {w : World}
def notSt (P : Program) (t : TypeId) : Bool := match P.underlying t with | some (.struct _) => false | _ => true
theorem lawRet {f : FuncId} {ps : List PT} {g : denPs T ps → Option (denIo T (iosP ps) (denRs T [.val .bool]))} (hok : FnOk T P f ⟨ps, [.val .bool], g⟩) (hio : iosP ps = []) (hent : ∀ x : denPs T ps, entPs T ps x = []) {x : denPs T ps} {y : denIo T (iosP ps) (denRs T [.val .bool])} (hy : g x = some y) (hl : lastIo T (iosP ps) y = (true : Bool))
    {φ : Nat → RA} {vs : List Value} (hvs : VRL T w [] φ (argsL T 0 ps x) vs) : Calls P f vs.toArray w (RetV w (.bool true)) := by
  have hio0 : (iosP ps).length = 0 := by rw [hio]; rfl
  refine (hok x y hy w [] φ vs hvs (fun b hb => by cases hb) (fun k e hk => by rw [show entPs T (FnSpec.ps ⟨ps, [.val .bool], g⟩) x = [] from hent x] at hk; simp at hk) (fun j k hj => by
    have hj : j < (iosP ps).length := hj
    omega)).mono fun e w' hR => ?_
  cases e with
  | returned v =>
    obtain ⟨F1, H1, F1', S1, φ1, as1, us, g1, g2, rfl, g4, g5, g6⟩ := hR
    have hchg : Chg [] w w' := by
      have := g1.chg
      rw [show blksN φ (iosP ps).length = [] by rw [hio0]; rfl] at this
      exact this
    refine ⟨hchg, ?_⟩
    have hlast := (rdIo_spec g4).1
    rw [hl] at hlast
    match as1, hlast, us, g2 with
    | [a], hlast, [v], g2 =>
      have hrd : ofAV T .bool a = some true := hlast
      exact (cbool_rel (φ := φ1) (ofAV_rel (t := .bool) hrd g2.1 φ1))
    | [], hlast, _, _ => cases hlast
    | _ :: _ :: _, hlast, _, _ => cases hlast
  | panicked ch => exact hR.elim
  | outgrown => exact hR.elim
end
end Go.X
