/- One deferred closure that recovers. Nothing here is about one program. -/
import Derived.Test.YtjjlcenmifcaeaaG1
import Derived.Recover
namespace Go.V
open Go.RowKit
/-- It panics with just this. -/
def Pan (w : World) (v : Value) : Ending → World → Prop
  | .panicked ch, w' => ch = [{ v := v, recovered := false }] ∧ Chg [] w w'
  | _, _ => False
section
variable {P : Program} {ops : Array Oper} {Q : Exit → Act → World → Prop} {k n : Nat} {ds : List Deferred} {F : PF} {w : World}

/-- what a result is, read in this world. -/
def ResC (P : Program) (w : World) (F : PF) : ResultVar → Value → Prop
  | .tmp t, v => F.get t = some v
  | .cell p ty, v => ∃ a, F.get p = some (.pointer (some a)) ∧ (loadVar ty a).run P w = .ok v w
def ResLC (P : Program) (w : World) (F : PF) : List ResultVar → List Value → Prop
  | [], [] => True
  | r :: l, v :: vs => ResC P w F r v ∧ ResLC P w F l vs
  | _, _ => False
/-- the results as one value. -/
def tup : List Value → Value | [v] => v | l => .tuple l.toArray
/-- what recover tells, and the mode behind it. -/
def recU : FrameMode → Value × FrameMode
  | .panicking ({ v, recovered := false, goexit := false } :: older) => (v, .panicking ({ v, recovered := true } :: older))
  | u => (.nilIface, u)
/-- the slot that the region's first operation, a recover, writes. -/
def recOp (ops : Array Oper) : Option Tmp := match ops[0]? with | some (Oper.mk (some d) (.call (Call.mk (.builtin .recover) _ _)) _ _ _ none) => some d | _ => none

end
end Go.V
