import Derived.Test.YtjiagljaipadmaaLt
namespace Go.V
open Go.RowKit Go.Proofs
theorem law11_awake_true : law11_awake = true := by decide +kernel
end Go.V
