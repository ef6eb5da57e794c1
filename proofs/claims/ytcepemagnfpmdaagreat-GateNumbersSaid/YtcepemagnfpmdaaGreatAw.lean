import Derived.Test.YtcepemagnfpmdaaGreatId
set_option linter.defProp false
namespace Go.Y
open Go.RowKit Go.V Go.X Go.Proofs
def qs4:ql w7=some true:=by kernel_rfl
end Go.Y
