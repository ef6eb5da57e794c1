import Derived.Test.YtjiagljaipadmaaLs
namespace Go.V
open Go.RowKit Go.Proofs
theorem law12_awake_true : law12_awake = true := by decide +kernel
end Go.V
