import Derived.Test.YtcepemagnfpmdaaGreatIf
set_option linter.defProp false
namespace Go.Y
open Go.RowKit Go.V Go.X Go.Proofs
def gf1:qbk w7 zd4 [1] zd4 exI=za0 zc0 fun y=>some (((0,1073741823,(),(),3,0,(),(),0,5,(),(),0,1073741823,(),(),3,0,(),(),()),zd4,[1],zd4,exI,()),(y,())):=by kernel_rfl
end Go.Y
