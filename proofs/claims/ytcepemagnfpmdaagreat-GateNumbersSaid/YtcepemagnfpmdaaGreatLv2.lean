import Derived.Test.YtcepemagnfpmdaaGreatIf
set_option linter.defProp false
namespace Go.Y
open Go.RowKit Go.V Go.X Go.Proofs
def ge8:qbh w7 zd4 [1] zd4 exI=za0 zc0 fun y=>some (((0,-1,(),(),3,0,(),(),0,5,(),(),0,-1,(),(),3,0,(),(),()),zd4,[1],zd4,exI,()),(y,())):=by kernel_rfl
end Go.Y
