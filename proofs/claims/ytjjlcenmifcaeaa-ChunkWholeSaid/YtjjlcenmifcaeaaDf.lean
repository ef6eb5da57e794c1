/- One deferred closure that recovers. Nothing here is about one program. -/
import Derived.Test.YtjjlcenmifcaeaaG1
import Derived.Recover
namespace Go.V
open Go.RowKit
section
variable {P : Program} {ops : Array Oper} {Q : Exit → Act → World → Prop} {k n : Nat} {ds : List Deferred} {F : PF} {w : World}

end
end Go.V
