import Derived.Test.YtcepemagnfpmdaaGreatId
namespace Go.Y
open Go.RowKit Go.V Go.X Go.Proofs
theorem nil_true (x : Int) (b : List Int) : qcd BIG x b = some true := by kernel_rfl
end Go.Y
